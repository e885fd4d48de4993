/- A small verified interpreter over names, its proofs, and what was proved with it. No condition. -/
import Derived.Test.YtpimmmnkcgnjjaaGreatP14
import Derived.Test.YtpimmmnkcgnjjaaGreatP18
import Derived.Test.YtpimmmnkcgnjjaaGreatP11
set_option linter.all false
set_option linter.deprecated false
section
namespace Go.Ai
open Go.Proofs
set_option maxRecDepth 10000
set_option maxHeartbeats 40000000
structure InQ (g:Nat→Option Blk) (n st inp out:Nat) (es:List Nat) (ev:AV) (ws:List (List Nat)) (wv:AV) (sb:List Nat) (sbv:AV) (eb:List (List Nat)) (ebv:AV) : Prop where
 i:InG g n st inp out es ev ws wv
 bs:∀ b∈sb,b < 256
 be:∀ w∈eb,∀ b∈w,b < 256
 s:RepB g n sb sbv
 e:ListB g n eb ebv
theorem InQ.mono {g g' : Nat→Option Blk} {n n' st inp out:Nat} {es:List Nat} {ev:AV} {ws:List (List Nat)} {wv:AV} {sb:List Nat} {sbv:AV} {eb:List (List Nat)} {ebv:AV} (h:InQ g n st inp out es ev ws wv sb sbv eb ebv) (hn:n≤n') (hg:∀ a,a < n→g' a=g a) : InQ g' n' st inp out es ev ws wv sb sbv eb ebv :=
 ⟨h.i.mono hn hg,h.bs,h.be,SliceV.mono hn hg h.s,h.e.mono hn hg⟩
theorem QTab_w {st inp out:Nat} (part:Bool) {es:List Nat} {ev:AV} {ws:List (List Nat)} {wv:AV} (ia ib ic:Int) {sb:List Nat} {eb:List (List Nat)} (full:Bool) (g:Nat→Option Blk) (n:Nat) {sbv ebv:AV} (h:InQ g n st inp out es ev ws wv sb sbv eb ebv) :
  ∃ (I:Nat) (O:Int) (M:MachM) (S E:List (List Int)) (L:List (List Int×List Int)),M=machOf st inp out part es∧M.inp=I∧M.out=O∧S=qSx M sb∧E=qEx M eb∧L=qLx M ws full S E∧TabP I O S E (rowsL I L)∧QOK M S E L∧WC 0 Tryz.prog 16 [.agg [.lit (.int .u8 st),.lit (.int .u8 inp),.lit (.int .u8 out),.lit (.bool part),ev,wv,.lit (.int .u8 ia),.lit (.int .u8 ib),.lit (.int .u8 ic),sbv,ebv,.lit (.bool full)]] ⟨.fn g,n⟩ fun r=>∃ sv e2 tv g' n',r=.ret (.agg [.lit (.int .i64 I),.lit (.int .i64 O),sv,e2,.lit (.int .i64 I),.lit (.int .i64 O),tv]) ⟨.fn g',n'⟩∧n≤n'∧(∀ b,b < n→g' b=g b)∧TabV g' n' S E (rowsL I L) sv e2 tv:=by
 have hM:=machOf_ok st inp out part es
 have hM3:(machOf st inp out part es).inp≤3:=by show 1+((inp % 3:Nat) : Int)≤3; omega
 have hI:(machOf st inp out part es).inp=((1+inp % 3:Nat) : Int):=by show 1+((inp % 3:Nat) : Int)=_; omega
 have hI3:1+inp % 3≤3:=by omega
 generalize 1+inp % 3=I at *
 have hq:=q_ok hM hM3 ws sb eb full
 refine ⟨I,_,_,_,_,_,rfl,hI,rfl,rfl,rfl,rfl,hq.tab hM hI rfl hI3,hq,WC.mono (QOf_w (part:=part) ia ib ic h.bs h.be full g n h.i sbv ebv h.s h.e) ?_⟩
 rintro _ ⟨sv,e2,tv,g',n',rfl,h1,h2,h3,h4,h5⟩
 rw [hI,Int.toNat_natCast] at h5
 refine ⟨sv,e2,tv,g',n',?_,h1,h2,⟨h3,h4,h5⟩⟩
 rw [hI]
theorem RowK.rep {g:Nat→Option Blk} {lo n:Nat} {r:Option (List Int)} {rv:AV} (h:RowK g lo n r rv) : RepW g n (r.getD []) rv:=by
 cases r with
 | none=>have h' : rv=.lit (.slice none 0 0):=h; rw [h']; exact .inl ⟨rfl,rfl,.inl rfl⟩
 | some r=>exact h.1.rep
theorem AnsK.rep {g:Nat→Option Blk} {lo n:Nat} {r:Option (List Int)} {rv:AV} (h:AnsK g lo n r rv) : RepW g n (r.getD []) rv:=by
 cases r with
 | none=>have h' : rv=.lit (.slice none 0 0):=h; rw [h']; exact .inl ⟨rfl,rfl,.inl rfl⟩
 | some r=>exact h.1.rep
theorem RowK.cap {g:Nat→Option Blk} {lo n:Nat} {r:Option (List Int)} {rv:AV} (h:RowK g lo n r rv) {H:Mem} {ev:Ev} {o:Oper} {e:TypeId} : capS Tryz.prog H ev o (some (.slice e)) (some rv)=.val (.lit (.int .i64 (r.getD []).length)) H:=by
 cases r with
 | none=>have h' : rv=.lit (.slice none 0 0):=h; rw [h']; exact capS_nil
 | some r =>
  rcases h.2 with ⟨h1,rfl⟩ | ⟨a,o,rfl⟩
  ·rw [Option.getD_some,h1]; exact capS_nil
  ·exact capS_sl
end Go.Ai
end
