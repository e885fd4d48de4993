/- A small verified interpreter over names, its proofs, and what was proved with it. No condition. -/
import Derived.Test.YtpimmmnkcgnjjaaGreatL15
import Derived.Test.YtpimmmnkcgnjjaaGreatL19
import Derived.Test.YtpimmmnkcgnjjaaGreatL12
set_option linter.all false
set_option linter.deprecated false
section
namespace Go.Ai
open Go.Proofs Go.Proofs.Tryz
set_option maxRecDepth 10000
set_option maxHeartbeats 40000000
variable {g:Gb} {n:Nat} {r:Option (Wd)} {rv:AV}
structure InQ (g:Gb) (n st inp out:Nat) (es:List Nat) (ev:AV) (ws:List (List Nat)) (wv:AV) (sb:List Nat) (sbv:AV) (eb:List (List Nat)) (ebv:AV) : Prop where
 i:InG g n st inp out es ev ws wv
 bs:∀ b∈sb,b<256
 be:∀ w∈eb,∀ b∈w,b<256
 s:a5s g n sb sbv
 e:a8k g n eb ebv
theorem InQ.mono {g': Gb} {n' st inp out:Nat} {es:List Nat} {ev:AV} {ws:List (List Nat)} {wv:AV} {sb:List Nat} {sbv:AV} {eb:List (List Nat)} {ebv:AV} (h:InQ g n st inp out es ev ws wv sb sbv eb ebv) (hn:n<=n') (hg:∀ a,a<n->g' a=g a) : InQ g' n' st inp out es ev ws wv sb sbv eb ebv :=
 ⟨h.i.mono hn hg,h.bs,h.be,Ag.mono hn hg h.s,h.e.mono hn hg⟩
theorem a2a.of {S E:Wq} {T:Tq} {sv ev tv:AV} (h1:Br g n S sv) (h2:Br g n E ev) (h3:De g n T tv) : a2a g n S E T sv ev tv:=⟨h1,h2,h3⟩
theorem RowK.rep {lo:Nat} (h:RowK g lo n r rv) : Ak g n (r.getD []) rv:=by
 cases r with
 | none=>have h' : rv=.nl:=h;rw[h'];exact .inl ⟨rfl,rfl,.inl rfl⟩
 | some r=>exact h.1.rep
theorem d7d.rep {lo:Nat} (h:d7d g lo n r rv) : Ak g n (r.getD []) rv:=by
 cases r with
 | none=>have h' : rv=.nl:=h;rw[h'];exact .inl ⟨rfl,rfl,.inl rfl⟩
 | some r=>exact h.1.rep
theorem RowK.cap {lo:Nat} (h:RowK g lo n r rv) {H:Mem} {ev:Ev} {o:Oper} {e:TypeId} : capS prog H ev o (some (.slice e)) (some rv)=.val (.lit (.int .i64 (r.getD []).length)) H:=by
 cases r with
 | none=>have h' : rv=.nl:=h;rw[h'];exact b9n
 | some r =>
  rcases h.2 with⟨h1,rfl⟩|⟨a,o,rfl⟩
  ·rw[Option.getD_some,h1];exact b9n
  ·exact c4u
end Go.Ai
end

