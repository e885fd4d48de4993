/- A small verified interpreter over names, its proofs, and what was proved with it. No condition. -/
import Derived.Test.YtpimmmnkcgnjjaaGreatR11
import Derived.Test.YtpimmmnkcgnjjaaGreatR06
import Derived.Test.YtpimmmnkcgnjjaaGreatR08
import Derived.Test.YtpimmmnkcgnjjaaGreatR09
set_option linter.all false
set_option linter.deprecated false
section
namespace Go.Ai
open Go.Proofs
set_option maxRecDepth 10000
set_option maxHeartbeats 40000000
theorem apZ65:apZr Tryz.prog 65 3=some (1,8,[.lit (.int .i64 0)]):=by kernel_rfl
theorem SGrow_nil {k:Nat} (hk0:0 < k) (hk:k≤100000) (g:Nat→Option Blk) (n:Nat) :
  WC 0 Tryz.prog 144 [.lit (.slice none 0 0),.lit (.int .i64 (k:Int))] ⟨.fn g,n⟩ fun r=>r=.ret (.slq n 0 0 0) ⟨.fn (gput g n (some (.cells (rep [.lit (.int .i64 0)] k) true 1))),n+1⟩:=by
 have hap:=fun {H:Mem} {ev:Ev} {d:Option Tmp} {ty:TypeId} {p:String} {af:Array Edge} {gd:Option (Nat×Bool)} {x y:Operand} {hx:ev x=some (.lit (.slice none 0 0))} {hy:ev y=some (.lit (.int .i64 (k:Int)))}=>ap_zeros (P:=Tryz.prog) (H:=H) (ev:=ev) (d:=d) (ty:=ty) (p:=p) (af:=af) (g:=gd) (x:=x) (y:=y) (hx:=hx) (hy:=hy) 1 8 apZ65 hk0 (by omega) (by omega) (by omega) rfl
 have hsn:=fun {H:Mem} {ev:Ev} {d:Option Tmp} {ty:TypeId} {p:String} {af:Array Edge} {gd:Option (Nat×Bool)} {x hi:Operand} {hx:ev x=some (.lit (.slice none 0 0))} {hh:ev hi=some (.lit (.int .i64 0))}=>slice_nil_hi (P:=Tryz.prog) (H:=H) (ev:=ev) (d:=d) (ty:=ty) (p:=p) (af:=af) (g:=gd) (x:=x) (hi:=hi) (hx:=hx) (hh:=hh) (t:=65) (by kernel_rfl)
 have hkI:(0:Int) < (k:Int):=by omega
 have hkI2:¬(k:Int) < 0:=by omega
 refine WC.enterP (noO_ok _ _) hG [] Tryz.func144 rfl (by decide +kernel) (Nat.le_of_ble_eq_true (by kernel_rfl)) ?_
 iterate 8 (all_goals try (first | with_reducible refine splitI (fun h=>?_) (fun h=>?_) | with_reducible refine splitBI (fun h=>?_) (fun h=>?_) | simp (config:={ maxSteps:=1000000 }) (disch:=first | assumption | omega | (simp; done) | fail) [Tryz.results144, *]))
theorem putR_zero {l new:List AV} (h:new.length≤l.length) : putR l 0 new=new++l.drop new.length:=by simp [putR]
theorem Concat2_w {a b:List Int} (hal:a.length≤10000) (hbl:b.length≤10000) (hb0:0 < b.length) (g:Nat→Option Blk) (n A:Nat) (hA:A < n) (av bv:AV) (own:Bool) (z:Nat) (hg:g A=some (.cells [av,bv] own z)) (ha:RepW g n a av) (hb:RepW g n b bv) :
  WC 0 Tryz.prog 126 [.sl A 0 2 2] ⟨.fn g,n⟩ fun r=>∃ g' n',r=.ret (.slq n 0 (a.length+b.length) 0) ⟨.fn g',n'⟩∧n < n'∧(∀ x,x < n→g' x=g x)∧g' n=some (.cells (wdC (a++b)) true 1):=by
 have h1a:=ha.one
 have h1b:=hb.one
 have hlena:=@lenV Tryz.prog _ _ _ _ _ ha
 have hlenb:=@lenV Tryz.prog _ _ _ _ _ hb
 have HSG:=Hide.mk (SGrow_nil (k:=a.length+b.length) (by omega) (by omega) g n)
 have hwb:(wdC b).length=b.length * 1:=by rw [wdC_len,Nat.mul_one]
 have hwa:(wdC a).length=a.length * 1:=by rw [wdC_len,Nat.mul_one]
 obtain ⟨a9,blk9,ha9,hga9,hapb⟩:=SliceV.aps (P:=Tryz.prog) (sz:=1) hb hb0 hwb
 have hk0:¬((a.length:Int)+(b.length:Int) < 0):=by omega
 have hi1:(a.length:Int)≤10000:=by omega
 have hi2:(b.length:Int)≤10000:=by omega
 have hi3:¬((a.length:Int) < 0):=by omega
 clear hb
 have HA:=Hide.mk ha
 clear ha
 refine WC.enterP (noO_ok _ _) hG [] Tryz.func126 rfl (by decide +kernel) (Nat.le_of_ble_eq_true (by kernel_rfl)) ?_
 iterate 8 (all_goals try (first | with_reducible refine splitI (fun h=>?_) (fun h=>?_) | with_reducible refine splitBI (fun h=>?_) (fun h=>?_) | simp (config:={ maxSteps:=1000000 }) (disch:=first | assumption | omega | (simp; done) | fail) [Tryz.results126, *]))
 refine LX.roundP (noO_ok _ _) hG [] (by decide +kernel) ?_
 iterate 8 (all_goals try (first | with_reducible refine splitI (fun h=>?_) (fun h=>?_) | with_reducible refine splitBI (fun h=>?_) (fun h=>?_) | simp (config:={ maxSteps:=1000000 }) (disch:=first | assumption | omega | (simp; done) | fail) [Tryz.results126, *]))
 refine LX.roundP (noO_ok _ _) hG [] (by decide +kernel) ?_
 iterate 8 (all_goals try (first | with_reducible refine splitI (fun h=>?_) (fun h=>?_) | with_reducible refine splitBI (fun h=>?_) (fun h=>?_) | simp (config:={ maxSteps:=1000000 }) (disch:=first | assumption | omega | (simp; done) | fail) [Tryz.results126, *]))
 refine LX.roundP (noO_ok _ _) hG [] (by decide +kernel) ?_
 iterate 8 (all_goals try (first | with_reducible refine splitI (fun h=>?_) (fun h=>?_) | with_reducible refine splitBI (fun h=>?_) (fun h=>?_) | simp (config:={ maxSteps:=1000000 }) (disch:=first | assumption | omega | (simp; done) | fail) [Tryz.results126, *]))
 refine WC.mono HSG.out ?_
 rintro _ rfl
 have hg2:gput g n (some (.cells (rep [.lit (.int .i64 0)] (a.length+b.length)) true 1)) A=some (.cells [av,bv] own z):=(gput_lt hA).trans hg
 iterate 8 (all_goals try (first | with_reducible refine splitI (fun h=>?_) (fun h=>?_) | with_reducible refine splitBI (fun h=>?_) (fun h=>?_) | simp (config:={ maxSteps:=1000000 }) (disch:=first | assumption | omega | (simp; done) | fail) [Tryz.results126, *]))
 refine LX.roundP (noO_ok _ _) hG [] (by decide +kernel) ?_
 by_cases ha0:a.length=0
 ·have hav:SliceV g n av 0 (wdC a):=by have:=HA.out; rw [← ha0]; exact this
  have hap:=fun {H:Mem} {ev:Ev} {d:Option Tmp} {ty:TypeId} {p:String} {af:Array Edge} {gd:Option (Nat×Bool)} {x y:Operand} {s t:TypeId} {q off k c:Nat} {hx:ev x=some (.slq q off k c)} {hy:ev y=some av} (hp:(apI Tryz.prog s t).isSome=true)=>SliceV.apq0 (P:=Tryz.prog) hav (H:=H) (ev:=ev) (d:=d) (ty:=ty) (p:=p) (af:=af) (gd:=gd) (x:=x) (y:=y) (a:=q) (off:=off) (k:=k) (c:=c) (hx:=hx) (hy:=hy) hp
  have HAE:Hide (a=[]):=⟨List.length_eq_zero_iff.1 ha0⟩
  have hrl:(rep [AV.lit (.int .i64 0)] b.length).length=b.length:=by rw [rep_len]; simp
  have hrl2:(0+b.length) * 1≤(rep [AV.lit (.int .i64 0)] b.length).length:=by omega
  have hob:=wdC_one b
  clear hav
  iterate 8 (all_goals try (first | with_reducible refine splitI (fun h=>?_) (fun h=>?_) | with_reducible refine splitBI (fun h=>?_) (fun h=>?_) | simp (config:={ maxSteps:=1000000 }) (disch:=first | assumption | omega | (simp; done) | fail) [Tryz.results126, *]))
  refine LX.roundP (noO_ok _ _) hG [] (by decide +kernel) ?_
  iterate 8 (all_goals try (first | with_reducible refine splitI (fun h=>?_) (fun h=>?_) | with_reducible refine splitBI (fun h=>?_) (fun h=>?_) | simp (config:={ maxSteps:=1000000 }) (disch:=first | assumption | omega | (simp; done) | fail) [Tryz.results126, *]))
  refine LX.roundP (noO_ok _ _) hG [] (by decide +kernel) ?_
  iterate 8 (all_goals try (first | with_reducible refine splitI (fun h=>?_) (fun h=>?_) | with_reducible refine splitBI (fun h=>?_) (fun h=>?_) | simp (config:={ maxSteps:=1000000 }) (disch:=first | assumption | omega | (simp; done) | fail) [Tryz.results126, *]))
  refine ⟨_,_,⟨rfl,rfl⟩,by omega,fun x hx=>gput_lt hx,gput_eq.trans ?_⟩
  rw [HAE.out,List.nil_append,putR_zero (by omega),List.drop_eq_nil_of_le (by omega),List.append_nil]
 ·have hav:SliceV g n av a.length (wdC a):=HA.out
  obtain ⟨a8,blk8,ha8,hga8,hapa⟩:=SliceV.aps (P:=Tryz.prog) (sz:=1) hav (by omega) hwa
  have hrl:(rep [AV.lit (.int .i64 0)] (a.length+b.length)).length=a.length+b.length:=by rw [rep_len]; simp
  have hrl2:(0+a.length) * 1≤(rep [AV.lit (.int .i64 0)] (a.length+b.length)).length:=by omega
  have hrl3:(a.length+b.length) * 1≤(putR (rep [AV.lit (.int .i64 0)] (a.length+b.length)) 0 (wdC a)).length:=by rw [putR_len (by omega)]; omega
  have hob:=wdC_one b
  have hoa:=wdC_one a
  clear hav
  iterate 8 (all_goals try (first | with_reducible refine splitI (fun h=>?_) (fun h=>?_) | with_reducible refine splitBI (fun h=>?_) (fun h=>?_) | simp (config:={ maxSteps:=1000000 }) (disch:=first | assumption | omega | (simp; done) | fail) [Tryz.results126, *]))
  refine LX.roundP (noO_ok _ _) hG [] (by decide +kernel) ?_
  iterate 8 (all_goals try (first | with_reducible refine splitI (fun h=>?_) (fun h=>?_) | with_reducible refine splitBI (fun h=>?_) (fun h=>?_) | simp (config:={ maxSteps:=1000000 }) (disch:=first | assumption | omega | (simp; done) | fail) [Tryz.results126, *]))
  refine LX.roundP (noO_ok _ _) hG [] (by decide +kernel) ?_
  iterate 8 (all_goals try (first | with_reducible refine splitI (fun h=>?_) (fun h=>?_) | with_reducible refine splitBI (fun h=>?_) (fun h=>?_) | simp (config:={ maxSteps:=1000000 }) (disch:=first | assumption | omega | (simp; done) | fail) [Tryz.results126, *]))
  refine ⟨_,_,⟨rfl,rfl⟩,by omega,fun x hx=>gput_lt hx,gput_eq.trans ?_⟩
  have e1:(putR (rep [AV.lit (.int .i64 0)] (a.length+b.length)) 0 (wdC a)).take a.length=wdC a:=by
   have:=putR_take (l:=rep [AV.lit (.int .i64 0)] (a.length+b.length)) (new:=wdC a) (off:=0) (by omega)
   rw [hwa,Nat.zero_add,Nat.mul_one] at this
   simpa using this
  have e2:(putR (rep [AV.lit (.int .i64 0)] (a.length+b.length)) 0 (wdC a)).drop (a.length+(wdC b).length)=[]:=List.drop_eq_nil_of_le (by rw [putR_len (by omega)]; omega)
  have e3:putR (putR (rep [AV.lit (.int .i64 0)] (a.length+b.length)) 0 (wdC a)) a.length (wdC b)=wdC (a++b):=by
   rw [putR,e1,e2]; simp [wdC]
  rw [e3]
theorem WClip_slq {k:Nat} (hk0:0 < k) (hk:k≤100000) (g:Nat→Option Blk) (n B:Nat) :
  WC 0 Tryz.prog 93 [.slq B 0 k 0] ⟨.fn g,n⟩ fun r=>r=.ret (.sl B 0 k k) ⟨.fn g,n⟩:=by
 refine WC.enterP (noO_ok _ _) hG [] Tryz.func93 rfl (by decide +kernel) (Nat.le_of_ble_eq_true (by kernel_rfl)) ?_
 iterate 8 (all_goals try (first | with_reducible refine splitI (fun h=>?_) (fun h=>?_) | with_reducible refine splitBI (fun h=>?_) (fun h=>?_) | simp (config:={ maxSteps:=1000000 }) (disch:=first | assumption | omega | (simp; done) | fail) [Tryz.results93, *]))
theorem tbehind_w {a b:List Int} (hal:a.length≤10000) (hbl:b.length≤10000) (hb0:0 < b.length) (g:Nat→Option Blk) (n:Nat) (av bv:AV) (ha:RepW g n a av) (hb:RepW g n b bv) :
  WC 0 Tryz.prog 85 [av,bv] ⟨.fn g,n⟩ fun r=>∃ ov g' n',r=.ret ov ⟨.fn g',n'⟩∧n≤n'∧(∀ x,x < n→g' x=g x)∧FreshW g' n n' (a++b) ov∧CapV ov:=by
 have h1a:=ha.one
 have h1b:=hb.one
 have hab:allOne [av,bv]=true:=by simp [h1a,h1b]
 have hca:=ha.cell
 have hcb:=hb.cell
 have HCC:=Hide.mk (Concat2_w hal hbl hb0 (gput g n (some (.cells [av,bv] true 0))) (n+1) n (by omega) av bv true 0 gput_eq (SliceV.mono (by omega) (fun x hx=>gput_lt hx) ha) (SliceV.mono (by omega) (fun x hx=>gput_lt hx) hb))
 clear ha hb
 refine WC.enterP (noO_ok _ _) hG [] Tryz.func85 rfl (by decide +kernel) (Nat.le_of_ble_eq_true (by kernel_rfl)) ?_
 iterate 8 (all_goals try (first | with_reducible refine splitI (fun h=>?_) (fun h=>?_) | with_reducible refine splitBI (fun h=>?_) (fun h=>?_) | simp (config:={ maxSteps:=1000000 }) (disch:=first | assumption | omega | (simp; done) | fail) [Tryz.results85, *]))
 refine WC.mono HCC.out ?_
 rintro _ ⟨g2,n2,rfl,hn2,hg2,hb2⟩
 have HG2:=Hide.mk hg2
 clear hg2
 iterate 8 (all_goals try (first | with_reducible refine splitI (fun h=>?_) (fun h=>?_) | with_reducible refine splitBI (fun h=>?_) (fun h=>?_) | simp (config:={ maxSteps:=1000000 }) (disch:=first | assumption | omega | (simp; done) | fail) [Tryz.results85, *]))
 refine WC.mono (WClip_slq (by omega) (by omega) g2 n2 (n+1)) ?_
 rintro _ rfl
 iterate 8 (all_goals try (first | with_reducible refine splitI (fun h=>?_) (fun h=>?_) | with_reducible refine splitBI (fun h=>?_) (fun h=>?_) | simp (config:={ maxSteps:=1000000 }) (disch:=first | assumption | omega | (simp; done) | fail) [Tryz.results85, *]))
 refine ⟨_,_,_,⟨rfl,rfl,rfl⟩,by omega,fun x hx=>(HG2.out x (by omega)).trans (gput_lt hx),?_,fun _ _ _ _ e=>by cases e; exact Nat.le_refl _⟩
 have h5:(wdC (a++b)).length=a.length+b.length:=by rw [wdC_len,List.length_append]
 refine ⟨fun x=>if x=n+1 then g2 x else none,fun x y hx=>?_,?_⟩
 ·have hx' : (if x=n+1 then g2 x else none)=some y:=hx
  split at hx'
  ·exact ⟨hx',by omega,by omega⟩
  ·cases hx'
 ·have h6:RepW (fun x=>if x=n+1 then g2 x else none) n2 (a++b) (.sl (n+1) 0 (a++b).length (a.length+b.length)):=RepW.of (own:=true) (z:=1) ((if_pos rfl).trans hb2) (by omega)
  rw [List.length_append] at h6
  exact h6
end Go.Ai
end
section
namespace Go.Ai
open Go.Proofs
set_option maxRecDepth 10000
set_option maxHeartbeats 40000000
def AnsK (g:Nat→Option Blk) (lo n:Nat) : Option (List Int)→AV→Prop
 | none,rv=>rv=.lit (.slice none 0 0)
 | some r,rv=>FreshW g lo n r rv∧CapV rv
theorem capV_growK {g:Nat→Option Blk} {lo n B len sz:Nat} {sv:AV} {cs:List AV} (h:GrowV g lo n B sv len sz cs) : CapV sv:=by
 intro a o k c e
 rcases h with ⟨_,_,h3⟩ | ⟨_,h3,_⟩
 ·rw [h3] at e; cases e
 ·rw [h3] at e; cases e
theorem ansM_stepK {T:List (List (Int×Int))} {a:Nat} {i:Nat} {w:List Int} (ha:a < T.length) (hi:i < (T[a]).length) : ansM T ((a:Nat) : Int) ((i:Int) :: w)=if (T[a][i]).1 = -1 then (if (T[a][i]).2 = -2 then some (List.replicate (w.length+1) (-1)) else none) else (ansM T (T[a][i]).1 w).map ((T[a][i]).2 :: ·):=by
 have e:(T.getD ((a:Nat) : Int).toNat []).getD ((i:Nat) : Int).toNat (-1,-1)=T[a][i]:=by
  rw [Int.toNat_natCast,Int.toNat_natCast,List.getD_eq_getElem?_getD,List.getD_eq_getElem?_getD,List.getElem?_eq_getElem ha]
  simp [hi]
 rw [ansM,e]
def restK (T:List (List (Int×Int))) (x:Int) (r w:List Int) : Option (List Int):=if x = -1 then some (r++List.replicate w.length (-1)) else (ansM T x w).map (r ++ ·)
theorem KnownT_w {I:Nat} {O:Int} {T:List (List (Int×Int))} (h0:0 < T.length) (hok:∀ r∈T,r.length=I∧∀ e∈r,e.1 = -1∨(0≤e.1∧e.1 < T.length)) {w:List Int} (hwl:w.length≤1000) (hin:inW w I=true) (g:Nat→Option Blk) (n:Nat) (tv wv:AV) (hT:TreeV g n T tv) (hw:RepW g n w wv) :
  WC 0 Tryz.prog 63 [.agg [.lit (.int .i64 I),.lit (.int .i64 O),tv],wv] ⟨.fn g,n⟩ fun r=>∃ rv g' n',r=.ret (.tup [rv,.lit (.bool (ansM T 0 w).isSome)]) ⟨.fn g',n'⟩∧n≤n'∧(∀ b,b < n→g' b=g b)∧AnsK g' n n' (ansM T 0 w) rv:=by
 have hlen:=@lenV Tryz.prog _ _ _ _ _ hw
 have h1t:=hT.choose_spec.1.one
 have hone:allOne [.lit (.int .i64 I),.lit (.int .i64 O),tv]=true:=by simp [h1t]
 have HT:=Hide.mk hT
 have HW:=Hide.mk hw
 have HOK:=Hide.mk hok
 have HIN:Hide (∀ (k:Nat) (h:k < w.length),∃ j:Nat,w[k]=(j:Int)∧j < I):=⟨fun k h=>by
  have h2:0≤w[k]∧w[k] < (I:Int):=by simpa using List.all_eq_true.1 hin _ (List.getElem_mem h)
  exact ⟨(w[k]).toNat,by omega,by omega⟩⟩
 obtain ⟨RES,hRES⟩ : ∃ x,x=ansM T 0 w:=⟨_,rfl⟩
 rw [← hRES]
 have HRES:Hide (RES=restK T 0 [] w):=⟨by rw [hRES]; unfold restK; rw [if_neg (by decide)]; cases ansM T 0 w <;> rfl⟩
 clear hT hw hok hin hRES
 refine WC.enterP (noO_ok _ _) hG pl63 Tryz.func63 rfl (by decide +kernel) (Nat.le_of_ble_eq_true (by kernel_rfl)) ?_
 iterate 8 (all_goals try (first | with_reducible refine splitI (fun h=>?_) (fun h=>?_) | with_reducible refine splitBI (fun h=>?_) (fun h=>?_) | simp (config:={ maxSteps:=1000000 }) (disch:=first | assumption | omega | (simp; done) | fail) [Tryz.results63, *]))
 refine LX.ind (fun m gf H'=>∃ (k n2 B:Nat) (gL:Nat→Option Blk) (rv:AV) (r:List Int) (x:Int),k≤w.length∧m=w.length - k∧H'=⟨.fn gL,n2⟩∧n+1≤n2∧r.length≤k∧(x = -1∨(0≤x∧x < T.length))∧Hide (∀ b,b < n→gL b=g b)∧gL n=some (.cells [.lit (.int .i64 I),.lit (.int .i64 O),tv] true 0)∧Hide (GrowV gL (n+1) n2 B rv r.length 1 (wdC r))∧Hide (RES=restK T x r (w.drop k)) ∧
  gf 1=some wv∧gf 2=some (.ptr n 0)∧gf 6=some rv∧gf 7=some (.lit (.int .i64 x))∧gf 8=some (.lit (.int .i64 k))) (m0:=w.length) ?_ ?_
 ·exact ⟨0,n+1,0,_,_,[],0,Nat.zero_le _,rfl,rfl,Nat.le_refl _,Nat.le_refl _,.inr ⟨by decide,by omega⟩,⟨fun b hb=>gput_lt hb⟩,gput_eq,⟨.inl ⟨rfl,rfl,rfl⟩⟩,HRES,by simp,by simp,by simp,by simp,by simp⟩
 clear HRES
 rintro m gf H' ⟨k,n2,B,gL,rv,r,x,hk,rfl,rfl,hn2,hrk,hx,HG,hgn,HGR,HRE,w1,w2,w6,w7,w8⟩ ih
 have hrll:(wdC r).length=r.length * 1:=by rw [wdC_len,Nat.mul_one]
 have h1r:oneC rv=true:=HGR.out.one
 refine LX.roundP (noO_ok _ _) hG pl63 (by decide +kernel) ?_
 by_cases hlt:k < w.length
 ·have hltI:(k:Int) < (w.length:Int):=by omega
  by_cases hxm:x = -1
  ·subst hxm
   have HR2:Hide (RES=restK T (-1) (r++[-1]) (w.drop (k+1))):=⟨by
    rw [HRE.out]
    unfold restK
    rw [if_pos rfl,if_pos rfl,List.drop_eq_getElem_cons hlt,List.length_cons,List.replicate_succ]
    simp⟩
   clear HRE
   rcases HGR.out with ⟨h6,hc6,hs6⟩ | ⟨h6,hs6,hC1,hC2,hC3,hC4⟩
   ·subst hs6
    have HZ:=Hide.mk (And.intro h6 hc6)
    clear h6 hc6
    iterate 8 (all_goals try (first | with_reducible refine splitI (fun h=>?_) (fun h=>?_) | with_reducible refine splitBI (fun h=>?_) (fun h=>?_) | simp (config:={ maxSteps:=1000000 }) (disch:=first | assumption | omega | (simp; done) | fail) [Tryz.results63, *]))
    refine ih.out (w.length - (k+1)) _ _ (by omega) ⟨k+1,n2+1+1,n2+1,_,.slq (n2+1) 0 (r.length+1) 0,r++[-1],-1,by omega,rfl,rfl,by omega,by simp; omega,by omega,⟨fun b hb=>?_⟩,?_,⟨?_⟩,HR2,by simp [*],by simp [*],by simp [HZ.out.1],by simp [*],by simp⟩
    ·simp (disch:=omega) only [gput_lt,gput_ne]; exact HG.out b hb
    ·simp (disch:=omega) only [gput_lt,gput_ne]; exact hgn
    ·rw [List.length_append,List.length_singleton]
     refine .mk ?_ (by omega) (by omega) (by rw [wdC_len]; simp)
     rw [wdC_snoc,HZ.out.2]; simp (disch:=omega) only [gput_lt,gput_ne,gput_eq]; rfl
   ·subst hs6
    iterate 8 (all_goals try (first | with_reducible refine splitI (fun h=>?_) (fun h=>?_) | with_reducible refine splitBI (fun h=>?_) (fun h=>?_) | simp (config:={ maxSteps:=1000000 }) (disch:=first | assumption | omega | (simp; done) | fail) [Tryz.results63, *]))
    refine ih.out (w.length - (k+1)) _ _ (by omega) ⟨k+1,n2+1+1,n2+1,_,.slq (n2+1) 0 (r.length+1) 0,r++[-1],-1,by omega,rfl,rfl,by omega,by simp; omega,by omega,⟨fun b hb=>?_⟩,?_,⟨?_⟩,HR2,by simp [*],by simp [*],by simp [*],by simp [*],by simp⟩
    ·simp (disch:=omega) only [gput_lt,gput_ne]; exact HG.out b hb
    ·simp (disch:=omega) only [gput_lt,gput_ne]; exact hgn
    ·rw [List.length_append,List.length_singleton]
     refine .mk ?_ (by omega) (by omega) (by rw [wdC_len]; simp)
     rw [wdC_snoc]; simp (disch:=omega) only [gput_lt,gput_ne,gput_eq]
  ·obtain ⟨a,rfl⟩ : ∃ a:Nat,x=a:=⟨x.toNat,by omega⟩
   have hat:a < T.length:=by omega
   have hxn:¬(a:Int) < 0:=by omega
   obtain ⟨j,hj,hjI⟩:=HIN.out k hlt
   obtain ⟨a2,o2,ha2,hia2,hc2⟩:=RepW.at HW.out hlt
   rw [← HG.out a2 ha2,hj] at hc2
   obtain ⟨a3,o3,tq,ha3,hia3,hc3,htq⟩:=HT.out.at hat
   have hrow:=HOK.out _ (List.getElem_mem hat)
   have hjt:j < (T[a]).length:=by omega
   have HE1:=Hide.mk (hrow.2 _ (List.getElem_mem hjt))
   obtain ⟨a4,o4,ha4,hia4,hc4⟩:=edge_at htq hjt
   rw [← HG.out a3 ha3] at hc3
   rw [← HG.out a4 ha4] at hc4
   have HST:=Hide.mk (show RES=(if (T[a][j]).1 = -1 then (if (T[a][j]).2 = -2 then some (List.replicate ((w.drop (k+1)).length+1) (-1)) else none) else (ansM T (T[a][j]).1 (w.drop (k+1))).map ((T[a][j]).2 :: ·)).map (r ++ ·) from by
    rw [HRE.out]
    unfold restK
    rw [if_neg (by omega),List.drop_eq_getElem_cons hlt,hj,ansM_stepK hat hjt])
   clear hj hrow htq HRE hx
   generalize T[a][j]=e at *
   obtain ⟨to,eo⟩:=e
   dsimp only at HST HE1 hc4
   iterate 1 (all_goals try (first | with_reducible refine splitI (fun h=>?_) (fun h=>?_) | with_reducible refine splitBI (fun h=>?_) (fun h=>?_) | simp (config:={ maxSteps:=1000000 }) (disch:=first | assumption | omega | (simp; done) | fail) [Tryz.results63, *]))
   refine splitI (fun ht=>?_) (fun ht=>?_)
   ·subst ht
    rw [if_pos rfl] at HST
    by_cases ho:eo = -2
    ·have HR2:Hide (RES=restK T (-1) (r++[-1]) (w.drop (k+1))):=⟨by
      rw [HST.out,if_pos ho]
      unfold restK
      rw [if_pos rfl,List.replicate_succ]
      simp⟩
     clear HST HE1
     rcases HGR.out with ⟨h6,hc6,hs6⟩ | ⟨h6,hs6,hC1,hC2,hC3,hC4⟩
     ·subst hs6
      have HZ:=Hide.mk (And.intro h6 hc6)
      clear h6 hc6
      iterate 8 (all_goals try (first | with_reducible refine splitI (fun h=>?_) (fun h=>?_) | with_reducible refine splitBI (fun h=>?_) (fun h=>?_) | simp (config:={ maxSteps:=1000000 }) (disch:=first | assumption | omega | (simp; done) | fail) [Tryz.results63, *]))
      refine ih.out (w.length - (k+1)) _ _ (by omega) ⟨k+1,n2+1+1+1,n2+1+1,_,.slq (n2+1+1) 0 (r.length+1) 0,r++[-1],-1,by omega,rfl,rfl,by omega,by simp; omega,by omega,⟨fun b hb=>?_⟩,?_,⟨?_⟩,HR2,by simp [*],by simp [*],by simp [HZ.out.1],by simp [*],by simp⟩
      ·simp (disch:=omega) only [gput_lt,gput_ne]; exact HG.out b hb
      ·simp (disch:=omega) only [gput_lt,gput_ne]; exact hgn
      ·rw [List.length_append,List.length_singleton]
       refine .mk ?_ (by omega) (by omega) (by rw [wdC_len]; simp)
       rw [wdC_snoc,HZ.out.2]; simp (disch:=omega) only [gput_lt,gput_ne,gput_eq]; rfl
     ·subst hs6
      iterate 8 (all_goals try (first | with_reducible refine splitI (fun h=>?_) (fun h=>?_) | with_reducible refine splitBI (fun h=>?_) (fun h=>?_) | simp (config:={ maxSteps:=1000000 }) (disch:=first | assumption | omega | (simp; done) | fail) [Tryz.results63, *]))
      refine ih.out (w.length - (k+1)) _ _ (by omega) ⟨k+1,n2+1+1+1,n2+1+1,_,.slq (n2+1+1) 0 (r.length+1) 0,r++[-1],-1,by omega,rfl,rfl,by omega,by simp; omega,by omega,⟨fun b hb=>?_⟩,?_,⟨?_⟩,HR2,by simp [*],by simp [*],by simp [*],by simp [*],by simp⟩
      ·simp (disch:=omega) only [gput_lt,gput_ne]; exact HG.out b hb
      ·simp (disch:=omega) only [gput_lt,gput_ne]; exact hgn
      ·rw [List.length_append,List.length_singleton]
       refine .mk ?_ (by omega) (by omega) (by rw [wdC_len]; simp)
       rw [wdC_snoc]; simp (disch:=omega) only [gput_lt,gput_ne,gput_eq]
    ·have hR:RES=none:=by rw [HST.out,if_neg ho]; rfl
     clear HST HE1
     subst hR
     iterate 8 (all_goals try (first | with_reducible refine splitI (fun h=>?_) (fun h=>?_) | with_reducible refine splitBI (fun h=>?_) (fun h=>?_) | simp (config:={ maxSteps:=1000000 }) (disch:=first | assumption | omega | (simp; done) | fail) [Tryz.results63, *]))
     exact ⟨_,_,_,⟨rfl,rfl,rfl⟩,by omega,fun b hb=>(gput_lt (by omega)).trans (HG.out b hb),rfl⟩
   ·rw [if_neg ht] at HST
    have HR2:Hide (RES=restK T to (r++[eo]) (w.drop (k+1))):=⟨by
     rw [HST.out]
     unfold restK
     rw [if_neg ht]
     cases ansM T to (w.drop (k+1)) <;> simp⟩
    have hto:0≤to∧to < T.length:=HE1.out.resolve_left ht
    clear HST HE1
    rcases HGR.out with ⟨h6,hc6,hs6⟩ | ⟨h6,hs6,hC1,hC2,hC3,hC4⟩
    ·subst hs6
     have HZ:=Hide.mk (And.intro h6 hc6)
     clear h6 hc6
     iterate 8 (all_goals try (first | with_reducible refine splitI (fun h=>?_) (fun h=>?_) | with_reducible refine splitBI (fun h=>?_) (fun h=>?_) | simp (config:={ maxSteps:=1000000 }) (disch:=first | assumption | omega | (simp; done) | fail) [Tryz.results63, *]))
     refine ih.out (w.length - (k+1)) _ _ (by omega) ⟨k+1,n2+1+1+1,n2+1+1,_,.slq (n2+1+1) 0 (r.length+1) 0,r++[eo],to,by omega,rfl,rfl,by omega,by simp; omega,by omega,⟨fun b hb=>?_⟩,?_,⟨?_⟩,HR2,by simp [*],by simp [*],by simp [HZ.out.1],by simp [*],by simp⟩
     ·simp (disch:=omega) only [gput_lt,gput_ne]; exact HG.out b hb
     ·simp (disch:=omega) only [gput_lt,gput_ne]; exact hgn
     ·rw [List.length_append,List.length_singleton]
      refine .mk ?_ (by omega) (by omega) (by rw [wdC_len]; simp)
      rw [wdC_snoc,HZ.out.2]; simp (disch:=omega) only [gput_lt,gput_ne,gput_eq]; rfl
    ·subst hs6
     iterate 8 (all_goals try (first | with_reducible refine splitI (fun h=>?_) (fun h=>?_) | with_reducible refine splitBI (fun h=>?_) (fun h=>?_) | simp (config:={ maxSteps:=1000000 }) (disch:=first | assumption | omega | (simp; done) | fail) [Tryz.results63, *]))
     refine ih.out (w.length - (k+1)) _ _ (by omega) ⟨k+1,n2+1+1+1,n2+1+1,_,.slq (n2+1+1) 0 (r.length+1) 0,r++[eo],to,by omega,rfl,rfl,by omega,by simp; omega,by omega,⟨fun b hb=>?_⟩,?_,⟨?_⟩,HR2,by simp [*],by simp [*],by simp [*],by simp [*],by simp⟩
     ·simp (disch:=omega) only [gput_lt,gput_ne]; exact HG.out b hb
     ·simp (disch:=omega) only [gput_lt,gput_ne]; exact hgn
     ·rw [List.length_append,List.length_singleton]
      refine .mk ?_ (by omega) (by omega) (by rw [wdC_len]; simp)
      rw [wdC_snoc]; simp (disch:=omega) only [gput_lt,gput_ne,gput_eq]
 ·have hltI:¬(k:Int) < (w.length:Int):=by omega
  have hR:RES=some r:=by
   rw [HRE.out,List.drop_eq_nil_of_le (by omega)]
   unfold restK
   split <;> simp [ansM]
  clear HRE
  subst hR
  iterate 8 (all_goals try (first | with_reducible refine splitI (fun h=>?_) (fun h=>?_) | with_reducible refine splitBI (fun h=>?_) (fun h=>?_) | simp (config:={ maxSteps:=1000000 }) (disch:=first | assumption | omega | (simp; done) | fail) [Tryz.results63, *]))
  exact ⟨_,_,_,⟨rfl,rfl,rfl⟩,by omega,HG.out,⟨(HGR.out.fresh rfl).keep (by omega) (Nat.le_refl _) fun _ _ _=>rfl,capV_growK HGR.out⟩⟩
end Go.Ai
end
section
namespace Go.Ai
open Go.Proofs
set_option maxRecDepth 10000
set_option maxHeartbeats 40000000
theorem tknown_w {I:Nat} {T:List (List (Int×Int))} (h0:0 < T.length) (hok:∀ r∈T,r.length=I∧∀ e∈r,e.1 = -1∨(0≤e.1∧e.1 < T.length)) {w:List Int} (hwl:w.length≤1000) (hin:inW w I=true) (c0 c1 c2 c3 c4 c5:AV) (hc:allOne [c0,c1,c2,c3,c4,c5]=true) (g:Nat→Option Blk) (n:Nat) (tv wv:AV) (hT:TreeV g n T tv) (hw:RepW g n w wv) :
  WC 0 Tryz.prog 96 [.agg [c0,c1,c2,c3,c4,c5,tv],wv] ⟨.fn g,n⟩ fun r=>∃ rv g' n',r=.ret (.tup [rv,.lit (.bool (ansM T 0 w).isSome)]) ⟨.fn g',n'⟩∧n≤n'∧(∀ b,b < n→g' b=g b)∧AnsK g' n n' (ansM T 0 w) rv:=by
 have hlen:=@lenV Tryz.prog _ _ _ _ _ hw
 have h1t:=hT.choose_spec.1.one
 have hone:allOne [c0,c1,c2,c3,c4,c5,tv]=true:=by
  simp only [allOne_cons,Bool.and_eq_true] at hc ⊢
  simp [hc,h1t]
 have HT:=Hide.mk hT
 have HW:=Hide.mk hw
 have HOK:=Hide.mk hok
 have HIN:Hide (∀ (k:Nat) (h:k < w.length),∃ j:Nat,w[k]=(j:Int)∧j < I):=⟨fun k h=>by
  have h2:0≤w[k]∧w[k] < (I:Int):=by simpa using List.all_eq_true.1 hin _ (List.getElem_mem h)
  exact ⟨(w[k]).toNat,by omega,by omega⟩⟩
 obtain ⟨RES,hRES⟩ : ∃ x,x=ansM T 0 w:=⟨_,rfl⟩
 rw [← hRES]
 have HRES:Hide (RES=restK T 0 [] w):=⟨by rw [hRES]; unfold restK; rw [if_neg (by decide)]; cases ansM T 0 w <;> rfl⟩
 clear hT hw hok hin hRES hc
 have hW2:(w.length:Int)≤1048576:=by omega
 refine WC.enterP (noO_ok _ _) hG [] Tryz.func96 rfl (by decide +kernel) (Nat.le_of_ble_eq_true (by kernel_rfl)) ?_
 iterate 8 (all_goals try (first | with_reducible refine splitI (fun h=>?_) (fun h=>?_) | with_reducible refine splitBI (fun h=>?_) (fun h=>?_) | simp (config:={ maxSteps:=1000000 }) (disch:=first | assumption | omega | (simp; done) | fail) [Tryz.results96, *]))
 refine LX.ind (fun m gf H'=>∃ (k n2:Nat) (gL:Nat→Option Blk) (Lo:List AV) (r:List Int) (x:Int),k≤w.length∧m=w.length - k∧H'=⟨.fn gL,n2⟩∧n+1+1≤n2∧(x = -1∨(0≤x∧x < T.length))∧Hide (∀ b,b < n→gL b=g b)∧gL n=some (.cells [c0,c1,c2,c3,c4,c5,tv] true 0)∧gL (n+1)=some (.cells Lo true 0)∧Lo.length=w.length∧Hide (Lo.take k=wdC r)∧Hide (r.length=k)∧Hide (RES=restK T x r (w.drop k)) ∧
  gf 1=some wv∧gf 2=some (.ptr n 0)∧gf 6=some (.sl (n+1) 0 k w.length)∧gf 7=some (.lit (.int .i64 x))∧gf 14=some wv∧gf 15=some (.lit (.int .i64 w.length))∧gf 16=some (.lit (.int .i64 k))) (m0:=w.length) ?_ ?_
 ·refine ⟨0,_,_,_,[],0,Nat.zero_le _,rfl,rfl,Nat.le_refl _,.inr ⟨by decide,by omega⟩,⟨fun b hb=>?_⟩,?_,gput_eq,?_,⟨rfl⟩,⟨rfl⟩,HRES,by simp,by simp,by simp,by simp,by simp,by simp,by simp⟩
  ·simp (disch:=omega) only [gput_lt]
  ·simp (disch:=omega) only [gput_lt,gput_eq]
  ·rw [rep_len]; simp
 clear HRES
 rintro m gf H' ⟨k,n2,gL,Lo,r,x,hk,rfl,rfl,hn2,hx,HG,hgn,hgo,hLo,HLo,HRL,HRE,w1,w2,w6,w7,w14,w15,w16⟩ ih
 refine LX.roundP (noO_ok _ _) hG [] (by decide +kernel) ?_
 by_cases hlt:k < w.length
 ·have hltI:(k:Int) < (w.length:Int):=by omega
  obtain ⟨j,hj,hjI⟩:=HIN.out k hlt
  obtain ⟨a2,o2,ha2,hia2,hc2⟩:=RepW.at HW.out hlt
  rw [← HG.out a2 ha2] at hc2
  by_cases hxm:x = -1
  ·subst hxm
   have HR2:Hide (RES=restK T (-1) (r++[-1]) (w.drop (k+1))):=⟨by
    rw [HRE.out]
    unfold restK
    rw [if_pos rfl,if_pos rfl,List.drop_eq_getElem_cons hlt,List.length_cons,List.replicate_succ]
    simp⟩
   have hLk:k+([.lit (.int .i64 (-1))] : List AV).length≤Lo.length:=by simp; omega
   have HPL:Hide ((putR Lo k [.lit (.int .i64 (-1))]).length=w.length∧(putR Lo k [.lit (.int .i64 (-1))]).take (k+1)=wdC (r++[-1])):=⟨by
    refine ⟨by rw [putR_len hLk]; exact hLo,?_⟩
    have h1:=putR_take hLk
    rw [HLo.out] at h1
    exact h1.trans (by simp [wdC])⟩
   clear HRE
   iterate 8 (all_goals try (first | with_reducible refine splitI (fun h=>?_) (fun h=>?_) | with_reducible refine splitBI (fun h=>?_) (fun h=>?_) | simp (config:={ maxSteps:=1000000 }) (disch:=first | assumption | omega | (simp; done) | fail) [Tryz.results96, *]))
   refine ih.out (w.length - (k+1)) _ _ (by omega) ⟨k+1,_,_,putR Lo k [.lit (.int .i64 (-1))],r++[-1],-1,by omega,rfl,rfl,by omega,by omega,⟨fun b hb=>?_⟩,?_,?_,HPL.out.1,⟨HPL.out.2⟩,⟨by simp [HRL.out]⟩,HR2,by simp [*],by simp [*],by simp [*],by simp [*],by simp [*],by simp [*],by simp⟩
   ·simp (disch:=omega) only [gput_lt,gput_ne]; exact HG.out b hb
   ·simp (disch:=omega) only [gput_lt,gput_ne]; exact hgn
   ·simp (disch:=omega) only [gput_lt,gput_ne,gput_eq]
  ·obtain ⟨a,rfl⟩ : ∃ a:Nat,x=a:=⟨x.toNat,by omega⟩
   have hat:a < T.length:=by omega
   have hxn:¬(a:Int) < 0:=by omega
   rw [hj] at hc2
   obtain ⟨a3,o3,tq,ha3,hia3,hc3,htq⟩:=HT.out.at hat
   have hrow:=HOK.out _ (List.getElem_mem hat)
   have hjt:j < (T[a]).length:=by omega
   have HE1:=Hide.mk (hrow.2 _ (List.getElem_mem hjt))
   obtain ⟨a4,o4,ha4,hia4,hc4⟩:=edge_at htq hjt
   rw [← HG.out a3 ha3] at hc3
   rw [← HG.out a4 ha4] at hc4
   have HST:=Hide.mk (show RES=(if (T[a][j]).1 = -1 then (if (T[a][j]).2 = -2 then some (List.replicate ((w.drop (k+1)).length+1) (-1)) else none) else (ansM T (T[a][j]).1 (w.drop (k+1))).map ((T[a][j]).2 :: ·)).map (r ++ ·) from by
    rw [HRE.out]
    unfold restK
    rw [if_neg (by omega),List.drop_eq_getElem_cons hlt,hj,ansM_stepK hat hjt])
   clear hj hrow htq HRE hx
   generalize T[a][j]=e at *
   obtain ⟨to,eo⟩:=e
   dsimp only at HST HE1 hc4
   by_cases ht:to = -1
   ·subst ht
    rw [if_pos rfl] at HST
    by_cases ho:eo = -2
    ·subst ho
     have HR2:Hide (RES=restK T (-1) (r++[-1]) (w.drop (k+1))):=⟨by
      rw [HST.out,if_pos rfl]
      unfold restK
      rw [if_pos rfl,List.replicate_succ]
      simp⟩
     have hLk:k+([.lit (.int .i64 (-1))] : List AV).length≤Lo.length:=by simp; omega
     have HPL:Hide ((putR Lo k [.lit (.int .i64 (-1))]).length=w.length∧(putR Lo k [.lit (.int .i64 (-1))]).take (k+1)=wdC (r++[-1])):=⟨by
      refine ⟨by rw [putR_len hLk]; exact hLo,?_⟩
      have h1:=putR_take hLk
      rw [HLo.out] at h1
      exact h1.trans (by simp [wdC])⟩
     clear HST HE1
     iterate 8 (all_goals try (first | with_reducible refine splitI (fun h=>?_) (fun h=>?_) | with_reducible refine splitBI (fun h=>?_) (fun h=>?_) | simp (config:={ maxSteps:=1000000 }) (disch:=first | assumption | omega | (simp; done) | fail) [Tryz.results96, *]))
     refine ih.out (w.length - (k+1)) _ _ (by omega) ⟨k+1,_,_,putR Lo k [.lit (.int .i64 (-1))],r++[-1],-1,by omega,rfl,rfl,by omega,by omega,⟨fun b hb=>?_⟩,?_,?_,HPL.out.1,⟨HPL.out.2⟩,⟨by simp [HRL.out]⟩,HR2,by simp [*],by simp [*],by simp [*],by simp [*],by simp [*],by simp [*],by simp⟩
     ·simp (disch:=omega) only [gput_lt,gput_ne]; exact HG.out b hb
     ·simp (disch:=omega) only [gput_lt,gput_ne]; exact hgn
     ·simp (disch:=omega) only [gput_lt,gput_ne,gput_eq]
    ·have hR:RES=none:=by rw [HST.out,if_neg ho]; rfl
     clear HST HE1
     subst hR
     simp only [Option.isSome]
     iterate 8 (all_goals try (first | with_reducible refine splitI (fun h=>?_) (fun h=>?_) | with_reducible refine splitBI (fun h=>?_) (fun h=>?_) | simp (config:={ maxSteps:=1000000 }) (disch:=first | assumption | omega | (simp; done) | fail) [Tryz.results96, *]))
     exact ⟨_,_,_,⟨rfl,rfl,rfl⟩,by omega,fun b hb=>(gput_lt (by omega)).trans (HG.out b hb),rfl⟩
   ·rw [if_neg ht] at HST
    have HR2:Hide (RES=restK T to (r++[eo]) (w.drop (k+1))):=⟨by
     rw [HST.out]
     unfold restK
     rw [if_neg ht]
     cases ansM T to (w.drop (k+1)) <;> simp⟩
    have hto:0≤to∧to < T.length:=HE1.out.resolve_left ht
    have hLk:k+([.lit (.int .i64 (eo))] : List AV).length≤Lo.length:=by simp; omega
    have HPL:Hide ((putR Lo k [.lit (.int .i64 (eo))]).length=w.length∧(putR Lo k [.lit (.int .i64 (eo))]).take (k+1)=wdC (r++[eo])):=⟨by
     refine ⟨by rw [putR_len hLk]; exact hLo,?_⟩
     have h1:=putR_take hLk
     rw [HLo.out] at h1
     exact h1.trans (by simp [wdC])⟩
    clear HST HE1
    iterate 8 (all_goals try (first | with_reducible refine splitI (fun h=>?_) (fun h=>?_) | with_reducible refine splitBI (fun h=>?_) (fun h=>?_) | simp (config:={ maxSteps:=1000000 }) (disch:=first | assumption | omega | (simp; done) | fail) [Tryz.results96, *]))
    refine ih.out (w.length - (k+1)) _ _ (by omega) ⟨k+1,_,_,putR Lo k [.lit (.int .i64 eo)],r++[eo],to,by omega,rfl,rfl,by omega,.inr hto,⟨fun b hb=>?_⟩,?_,?_,HPL.out.1,⟨HPL.out.2⟩,⟨by simp [HRL.out]⟩,HR2,by simp [*],by simp [*],by simp [*],by simp [*],by simp [*],by simp [*],by simp⟩
    ·simp (disch:=omega) only [gput_lt,gput_ne]; exact HG.out b hb
    ·simp (disch:=omega) only [gput_lt,gput_ne]; exact hgn
    ·simp (disch:=omega) only [gput_lt,gput_ne,gput_eq]
 ·have hltI:¬(k:Int) < (w.length:Int):=by omega
  have hkw:k=w.length:=by omega
  have hR:RES=some r:=by
   rw [HRE.out,List.drop_eq_nil_of_le (by omega)]
   unfold restK
   split <;> simp [ansM]
  clear HRE
  subst hR
  iterate 8 (all_goals try (first | with_reducible refine splitI (fun h=>?_) (fun h=>?_) | with_reducible refine splitBI (fun h=>?_) (fun h=>?_) | simp (config:={ maxSteps:=1000000 }) (disch:=first | assumption | omega | (simp; done) | fail) [Tryz.results96, *]))
  have HRW:Hide (gL (n+1)=some (.cells (wdC r) true 0)):=⟨by rw [hgo,← HLo.out,List.take_of_length_le (by omega)]⟩
  refine ⟨_,_,_,⟨rfl,rfl,rfl⟩,by omega,HG.out,⟨fun x=>if x=n+1 then gL x else none,fun x y hx=>?_,?_⟩,fun _ _ _ _ e=>by cases e; omega⟩
  ·have hx' : (if x=n+1 then gL x else none)=some y:=hx
   split at hx'
   ·exact ⟨hx',by omega,by omega⟩
   ·cases hx'
  ·have h6:RepW (fun x=>if x=n+1 then gL x else none) n2 r (.sl (n+1) 0 r.length w.length):=RepW.of (own:=true) (z:=0) ((if_pos rfl).trans HRW.out) (by omega)
   rw [HRL.out,hkw] at h6
   exact h6
end Go.Ai
end
section
namespace Go.Ai
open Go.Proofs
set_option maxRecDepth 10000
set_option maxHeartbeats 40000000
theorem el65:elSz Tryz.prog 65=some (none,1):=by kernel_rfl
theorem RowT_w {I:Nat} {O:Int} {T:List (List (Int×Int))} (h0:0 < T.length) (hok:∀ r∈T,r.length=I∧∀ e∈r,e.1 = -1∨(0≤e.1∧e.1 < T.length)) {w:List Int} {E:List (List Int)} (hwl:w.length≤300) (hEl:E.length≤100) (hin:inW w I=true) (hE:∀ e∈E,0 < e.length∧e.length≤300∧inW e I=true) (c2:AV) (hc2:oneC c2=true) (g:Nat→Option Blk) (n:Nat) (ev tv wv:AV) (hEV:ListV g n E ev) (hT:TreeV g n T tv) (hw:RepW g n w wv) :
  WC 0 Tryz.prog 28 [.agg [.lit (.int .i64 I),.lit (.int .i64 O),c2,ev,.lit (.int .i64 I),.lit (.int .i64 O),tv],wv] ⟨.fn g,n⟩ fun r=>∃ rv g' n',r=.ret (.tup [rv,.lit (.bool (rowU T w E).isSome)]) ⟨.fn g',n'⟩∧n≤n'∧(∀ b,b < n→g' b=g b)∧AnsK g' n n' (rowU T w E) rv:=by
 have hlen:=@lenV Tryz.prog _ _ _ _ _ hw
 have hlenE:=@lenV Tryz.prog _ _ _ _ _ hEV.choose_spec.1
 have h1t:=hT.choose_spec.1.one
 have h1e:=hEV.choose_spec.1.one
 have hone:allOne [.lit (.int .i64 I),.lit (.int .i64 O),c2,ev,.lit (.int .i64 I),.lit (.int .i64 O),tv]=true:=by simp [h1t,h1e,hc2]
 have HEV:=Hide.mk hEV
 have HE:=Hide.mk hE
 have HBE:=Hide.mk fun (e:List Int) (he:e∈E) (gX:Nat→Option Blk) (n2:Nat) (qv:AV) (hn:n≤n2) (hX:∀ b,b < n→gX b=g b) (hq:RepW gX n2 e qv)=>rbehind_w (a:=w) (b:=e) (by omega) (by have:=(hE e he).2.1; omega) (hE e he).1 gX n2 wv qv (SliceV.mono hn hX hw) hq
 have HKN:=Hide.mk fun (e:List Int) (he:e∈E) (gX:Nat→Option Blk) (n2:Nat) (uv:AV) (hn:n≤n2) (hX:∀ b,b < n→gX b=g b) (hu:RepW gX n2 (w++e) uv)=>KnownT_w (O:=O) h0 hok (w:=w++e) (by rw [List.length_append]; have:=(hE e he).2.1; omega) (inW_app hin (hE e he).2.2) gX n2 tv uv (hT.mono hn hX) hu
 obtain ⟨RES,hRES⟩ : ∃ x,x=rowU T w E:=⟨_,rfl⟩
 rw [← hRES]
 have HRES:Hide (RES=(rowU T w (E.drop 0)).map (fun x=>[]++x)):=⟨by rw [hRES,List.drop_zero]; cases rowU T w E <;> rfl⟩
 clear hT hw hEV hE hin hok hRES
 refine WC.enterP (noO_ok _ _) hG pl28 Tryz.func28 rfl (by decide +kernel) (Nat.le_of_ble_eq_true (by kernel_rfl)) ?_
 iterate 8 (all_goals try (first | with_reducible refine splitI (fun h=>?_) (fun h=>?_) | with_reducible refine splitBI (fun h=>?_) (fun h=>?_) | simp (config:={ maxSteps:=1000000 }) (disch:=first | assumption | omega | (simp; done) | fail) [Tryz.results28, *]))
 refine LX.ind (fun m gf H'=>∃ (k n2 B:Nat) (gL:Nat→Option Blk) (rv:AV) (r:List Int),k≤E.length∧m=E.length - k∧H'=⟨.fn gL,n2⟩∧n+1≤n2∧r.length≤300 * k∧Hide (∀ b,b < n→gL b=g b)∧gL n=some (.cells [.lit (.int .i64 I),.lit (.int .i64 O),c2,ev,.lit (.int .i64 I),.lit (.int .i64 O),tv] true 0)∧Hide (GrowV gL (n+1) n2 B rv r.length 1 (wdC r))∧Hide (RES=(rowU T w (E.drop k)).map (r ++ ·)) ∧
  gf 1=some wv∧gf 2=some (.ptr n 0)∧gf 6=some rv∧gf 7=some (.lit (.int .i64 k))) (m0:=E.length) ?_ ?_
 ·exact ⟨0,n+1,0,_,_,[],Nat.zero_le _,rfl,rfl,Nat.le_refl _,Nat.le_refl _,⟨fun b hb=>gput_lt hb⟩,gput_eq,⟨.inl ⟨rfl,rfl,rfl⟩⟩,HRES,by simp,by simp,by simp,by simp⟩
 clear HRES
 rintro m gf H' ⟨k,n2,B,gL,rv,r,hk,rfl,rfl,hn2,hrk,HG,hgn,HGR,HRE,w1,w2,w6,w7⟩ ih
 refine LX.roundP (noO_ok _ _) hG pl28 (by decide +kernel) ?_
 by_cases hlt:k < E.length
 ·have hltI:(k:Int) < (E.length:Int):=by omega
  obtain ⟨a2,o2,qv,ha2,hia2,hc2',hq⟩:=HEV.out.at hlt
  rw [← HG.out a2 ha2] at hc2'
  have hem:=List.getElem_mem hlt
  have he3:=HE.out _ hem
  have HST:=Hide.mk (HRE.out.trans (congrArg _ (rowU_step (T:=T) (w:=w) hlt)))
  have HB:=Hide.mk (HBE.out _ hem gL n2 qv (by omega) HG.out (SliceV.mono (by omega) HG.out hq))
  have HK:=Hide.mk (HKN.out _ hem)
  clear hq HRE hem
  generalize E[k]=e at *
  iterate 8 (all_goals try (first | with_reducible refine splitI (fun h=>?_) (fun h=>?_) | with_reducible refine splitBI (fun h=>?_) (fun h=>?_) | simp (config:={ maxSteps:=1000000 }) (disch:=first | assumption | omega | (simp; done) | fail) [Tryz.results28, *]))
  refine WC.mono HB.out ?_
  rintro _ ⟨uv,g3,n3,rfl,hn3,hg3,hfu⟩
  have HG3:=Hide.mk hg3
  have hgn3:=(hg3 n (by omega)).trans hgn
  have hc3' : loadB (some (false,1)) (g3 a2) (o2+k)=some qv:=by rw [hg3 a2 (by omega)]; exact hc2'
  have HKW:=Hide.mk (HK.out g3 n3 uv (by omega) (fun b hb=>(hg3 b (by omega)).trans (HG.out b hb)) hfu.rep)
  clear hg3 hfu HB HK
  iterate 8 (all_goals try (first | with_reducible refine splitI (fun h=>?_) (fun h=>?_) | with_reducible refine splitBI (fun h=>?_) (fun h=>?_) | simp (config:={ maxSteps:=1000000 }) (disch:=first | assumption | omega | (simp; done) | fail) [Tryz.results28, *]))
  refine WC.mono HKW.out ?_
  rintro _ ⟨kv,g4,n4,rfl,hn4,hg4,hak⟩
  have HG4:Hide (∀ b,b < n2→g4 b=gL b):=⟨fun b hb=>(hg4 b (by omega)).trans (HG3.out b hb)⟩
  have hgn4:=(HG4.out n (by omega)).trans hgn
  clear hg4 HKW HG3
  cases hA:ansM T 0 (w++e) with
  | none =>
   rw [hA] at hak HST
   have hkv:kv=.lit (.slice none 0 0):=hak
   have hR:RES=none:=HST.out
   clear hak HST hA
   subst hkv hR
   simp only [Option.isSome]
   iterate 8 (all_goals try (first | with_reducible refine splitI (fun h=>?_) (fun h=>?_) | with_reducible refine splitBI (fun h=>?_) (fun h=>?_) | simp (config:={ maxSteps:=1000000 }) (disch:=first | assumption | omega | (simp; done) | fail) [Tryz.results28, *]))
   exact ⟨_,_,_,⟨rfl,rfl,rfl⟩,by omega,fun b hb=>(HG4.out b (by omega)).trans (HG.out b hb),rfl⟩
  | some u =>
   rw [hA] at hak HST
   have hul:=ansM_len _ _ _ hA
   rw [List.length_append] at hul
   simp only [Option.isSome_some]
   obtain ⟨hfu,hcu⟩:=hak
   have hu0:0 < u.length - w.length:=by omega
   obtain ⟨sv2,hs2,hlo⟩:=SliceV.lo el65 hfu.rep hcu (k:=w.length) (by omega) (by rw [wdC_len,Nat.mul_one])
   have hwd:(wdC u).drop (w.length * 1)=wdC (u.drop w.length):=by simp [wdC,List.map_drop]
   rw [hwd] at hs2
   have hdl:(wdC (u.drop w.length)).length=(u.length - w.length) * 1:=by rw [wdC_len,List.length_drop,Nat.mul_one]
   have hall:=wdC_one (u.drop w.length)
   have HST2:Hide (RES=(rowU T w (E.drop (k+1))).map ((r++u.drop w.length) ++ ·)):=⟨by
    rw [HST.out]
    dsimp only
    cases rowU T w (E.drop (k+1)) <;> simp⟩
   clear HST hA
   rcases HGR.out with ⟨h6,hc6,hs6⟩ | ⟨h6,hs6,hC1,hC2,hC3,hC4⟩
   ·subst hs6
    have HZ:=Hide.mk (And.intro h6 hc6)
    clear h6 hc6
    obtain ⟨a9,blk,ha9,hga9,hap⟩:=SliceV.apn (P:=Tryz.prog) (sz:=1) hs2 hu0 (by omega) hdl
    clear hs2 hfu
    iterate 8 (all_goals try (first | with_reducible refine splitI (fun h=>?_) (fun h=>?_) | with_reducible refine splitBI (fun h=>?_) (fun h=>?_) | simp (config:={ maxSteps:=1000000 }) (disch:=first | assumption | omega | (simp; done) | fail) [Tryz.results28, *]))
    have e9:r++u.drop w.length=u.drop w.length:=by rw [List.length_eq_zero_iff.1 HZ.out.1]; rfl
    refine ih.out (E.length - (k+1)) _ _ (by omega) ⟨k+1,n4+1,n4,_,.slq n4 0 (u.length - w.length) 0,r++u.drop w.length,by omega,rfl,rfl,by omega,by rw [e9,List.length_drop]; omega,⟨fun b hb=>(gput_lt (by omega)).trans ((HG4.out b (by omega)).trans (HG.out b hb))⟩,(gput_lt (by omega)).trans hgn4,⟨?_⟩,HST2,by simp [*],by simp [*],by simp [*],by simp⟩
    rw [e9,List.length_drop]
    exact .inr ⟨hu0,rfl,by omega,by omega,gput_eq,hdl⟩
   ·subst hs6
    obtain ⟨a9,blk,ha9,hga9,hap⟩:=SliceV.apq (P:=Tryz.prog) (sz:=1) hs2 hu0 (by omega) hdl
    have hB4:=(HG4.out B (by omega)).trans hC3
    have hr4:r.length≤40000:=by omega
    clear hs2 hfu hC3
    iterate 8 (all_goals try (first | with_reducible refine splitI (fun h=>?_) (fun h=>?_) | with_reducible refine splitBI (fun h=>?_) (fun h=>?_) | simp (config:={ maxSteps:=1000000 }) (disch:=first | assumption | omega | (simp; done) | fail) [Tryz.results28, *]))
    refine ih.out (E.length - (k+1)) _ _ (by omega) ⟨k+1,n4+1,n4,_,.slq n4 0 (r.length+(u.length - w.length)) 0,r++u.drop w.length,by omega,rfl,rfl,by omega,by rw [List.length_append,List.length_drop]; omega,⟨fun b hb=>?_⟩,?_,⟨?_⟩,HST2,by simp [*],by simp [*],by simp [*],by simp⟩
    ·simp (disch:=omega) only [gput_lt,gput_ne]; exact (HG4.out b (by omega)).trans (HG.out b hb)
    ·simp (disch:=omega) only [gput_lt,gput_ne]; exact hgn4
    ·rw [List.length_append,List.length_drop]
     exact .inr ⟨by omega,rfl,by omega,by omega,gput_eq.trans (by simp [wdC]),by rw [wdC_len,List.length_append,List.length_drop,Nat.mul_one]⟩
 ·have hltI:¬(k:Int) < (E.length:Int):=by omega
  have hR:RES=some r:=by
   rw [HRE.out,List.drop_eq_nil_of_le (by omega)]
   simp [rowU]
  clear HRE
  subst hR
  iterate 8 (all_goals try (first | with_reducible refine splitI (fun h=>?_) (fun h=>?_) | with_reducible refine splitBI (fun h=>?_) (fun h=>?_) | simp (config:={ maxSteps:=1000000 }) (disch:=first | assumption | omega | (simp; done) | fail) [Tryz.results28, *]))
  exact ⟨_,_,_,⟨rfl,rfl,rfl⟩,by omega,HG.out,(HGR.out.fresh rfl).keep (by omega) (Nat.le_refl _) (fun _ _ _=>rfl),capV_growK HGR.out⟩
end Go.Ai
end
section
namespace Go.Ai
open Go.Proofs
set_option maxRecDepth 10000
set_option maxHeartbeats 40000000
def TightV (len:Nat) (rv:AV) : Prop:=(len=0∧rv=.lit (.slice none 0 0))∨∃ a o,rv=.sl a o len len
theorem Clip_t (w:List Int) (g:Nat→Option Blk) (lo n:Nat) (sv:AV) (hv:CloneV g lo n w sv) :
  WC 0 Tryz.prog 93 [sv] ⟨.fn g,n⟩ fun r=>∃ sv',r=.ret sv' ⟨.fn g,n⟩∧FreshW g lo n w sv'∧TightV w.length sv':=by
 rcases hv with ⟨rfl,rfl | ⟨m,h1,h2,rfl,h3⟩⟩ | ⟨hl,m,h1,h2,rfl,h3⟩
 ·have HF:Hide (FreshW g lo n [] (.lit (.slice none 0 0))∧TightV ([] : List Int).length (.lit (.slice none 0 0))):=⟨⟨fun _=>none,fun a z h=>(by cases h),.inl ⟨rfl,rfl,.inl rfl⟩⟩,.inl ⟨rfl,rfl⟩⟩
  refine WC.enterP (noO_ok _ _) hG [] Tryz.func93 rfl (by decide +kernel) (Nat.le_of_ble_eq_true (by kernel_rfl)) ?_
  iterate 8 (all_goals try (first | with_reducible refine splitI (fun h=>?_) (fun h=>?_) | with_reducible refine splitBI (fun h=>?_) (fun h=>?_) | simp (config:={ maxSteps:=1000000 }) (disch:=first | assumption | omega | (simp; done) | fail) [Tryz.results93, *]))
  exact HF.out
 ·have HF:Hide (FreshW g lo n [] (.sl m 0 0 0)∧TightV ([] : List Int).length (.sl m 0 0 0)):=⟨⟨fun a=>if a=m then g a else none,⟨fun a z hz=>(by
   have hz' : (if a=m then g a else none)=some z:=hz
   split at hz'
   ·rename_i h4; subst h4; exact ⟨hz',h1,h2⟩
   ·cases hz'),.inr ⟨m,0,h2,.inl ⟨0,rfl⟩,[],true,0,(if_pos rfl).trans h3,by simp [wdC],by simp [wdC]⟩⟩⟩,.inr ⟨_,_,rfl⟩⟩
  refine WC.enterP (noO_ok _ _) hG [] Tryz.func93 rfl (by decide +kernel) (Nat.le_of_ble_eq_true (by kernel_rfl)) ?_
  iterate 8 (all_goals try (first | with_reducible refine splitI (fun h=>?_) (fun h=>?_) | with_reducible refine splitBI (fun h=>?_) (fun h=>?_) | simp (config:={ maxSteps:=1000000 }) (disch:=first | assumption | omega | (simp; done) | fail) [Tryz.results93, *]))
  exact HF.out
 ·have HF:Hide (FreshW g lo n w (.sl m 0 w.length w.length)∧TightV w.length (.sl m 0 w.length w.length)):=⟨⟨fun a=>if a=m then g a else none,⟨fun a z hz=>(by
   have hz' : (if a=m then g a else none)=some z:=hz
   split at hz'
   ·rename_i h4; subst h4; exact ⟨hz',h1,h2⟩
   ·cases hz'),.inr ⟨m,0,h2,.inl ⟨_,rfl⟩,wdC w,true,1,(if_pos rfl).trans h3,by simp,by simp⟩⟩⟩,.inr ⟨_,_,rfl⟩⟩
  clear h3
  have hl2:¬w=[]:=fun h=>by rw [h] at hl; cases hl
  refine WC.enterP (noO_ok _ _) hG [] Tryz.func93 rfl (by decide +kernel) (Nat.le_of_ble_eq_true (by kernel_rfl)) ?_
  iterate 8 (all_goals try (first | with_reducible refine splitI (fun h=>?_) (fun h=>?_) | with_reducible refine splitBI (fun h=>?_) (fun h=>?_) | simp (config:={ maxSteps:=1000000 }) (disch:=first | assumption | omega | (simp; done) | fail) [Tryz.results93, *]))
  exact HF.out
def RowK (g:Nat→Option Blk) (lo n:Nat) : Option (List Int)→AV→Prop
 | none,rv=>rv=.lit (.slice none 0 0)
 | some r,rv=>FreshW g lo n r rv∧TightV r.length rv
def OutV (g:Nat→Option Blk) (lo n A c:Nat) (r:List Int) (rv:AV) : Prop :=
 (∃ Lo,rv=.sl A 0 r.length c∧lo≤A∧A < n∧g A=some (.cells Lo true 0)∧Lo.length=c∧Lo.take r.length=wdC r∧r.length≤c)∨(0 < r.length∧∃ B,rv=.slq B 0 r.length 0∧lo≤B∧B < n∧g B=some (.cells (wdC r) true 1))
theorem OutV.rep {g:Nat→Option Blk} {lo n A c:Nat} {r:List Int} {rv:AV} (h:OutV g lo n A c r rv) : RepW g n r rv:=by
 rcases h with ⟨Lo,rfl,h1,h2,h3,h4,h5,h6⟩ | ⟨h0,B,rfl,h1,h2,h3⟩
 ·refine .inr ⟨A,0,h2,.inl ⟨c,rfl⟩,Lo,true,0,h3,?_,?_⟩
  ·rw [wdC_len]; omega
  ·rw [wdC_len,List.drop_zero]; exact h5
 ·exact .inr ⟨B,0,h2,.inr ⟨0,rfl⟩,wdC r,true,1,h3,by simp,by simp⟩
theorem trow_w {I:Nat} {T:List (List (Int×Int))} (h0:0 < T.length) (hok:∀ r∈T,r.length=I∧∀ e∈r,e.1 = -1∨(0≤e.1∧e.1 < T.length)) {w:List Int} {E:List (List Int)} (hwl:w.length≤300) (hEl:E.length≤100) (hin:inW w I=true) (hE:∀ e∈E,0 < e.length∧e.length≤300∧inW e I=true) (c0 c1 c2 c4 c5:AV) (hc:allOne [c0,c1,c2,c4,c5]=true) (g:Nat→Option Blk) (n:Nat) (ev tv wv:AV) (hEV:ListV g n E ev) (hT:TreeV g n T tv) (hw:RepW g n w wv) :
  WC 0 Tryz.prog 79 [.agg [c0,c1,c2,ev,c4,c5,tv],wv] ⟨.fn g,n⟩ fun r=>∃ rv g' n',r=.ret (.tup [rv,.lit (.bool (rowU T w E).isSome)]) ⟨.fn g',n'⟩∧n≤n'∧(∀ b,b < n→g' b=g b)∧RowK g' n n' (rowU T w E) rv:=by
 have hlen:=@lenV Tryz.prog _ _ _ _ _ hw
 have hlenE:=@lenV Tryz.prog _ _ _ _ _ hEV.choose_spec.1
 have h1t:=hT.choose_spec.1.one
 have h1e:=hEV.choose_spec.1.one
 have hone:allOne [c0,c1,c2,ev,c4,c5,tv]=true:=by
  simp only [allOne_cons,Bool.and_eq_true] at hc ⊢
  simp [hc,h1t,h1e]
 have hc3:allOne [c0,c1,c2,ev,c4,c5]=true:=by
  simp only [allOne_cons,Bool.and_eq_true] at hc ⊢
  simp [hc,h1e]
 have HEV:=Hide.mk hEV
 have HE:=Hide.mk hE
 have HBE:=Hide.mk fun (e:List Int) (he:e∈E) (gX:Nat→Option Blk) (n2:Nat) (qv:AV) (hn:n≤n2) (hX:∀ b,b < n→gX b=g b) (hq:RepW gX n2 e qv)=>tbehind_w (a:=w) (b:=e) (by omega) (by have:=(hE e he).2.1; omega) (hE e he).1 gX n2 wv qv (SliceV.mono hn hX hw) hq
 have HKN:=Hide.mk fun (e:List Int) (he:e∈E) (gX:Nat→Option Blk) (n2:Nat) (uv:AV) (hn:n≤n2) (hX:∀ b,b < n→gX b=g b) (hu:RepW gX n2 (w++e) uv)=>tknown_w h0 hok (w:=w++e) (by rw [List.length_append]; have:=(hE e he).2.1; omega) (inW_app hin (hE e he).2.2) c0 c1 c2 ev c4 c5 hc3 gX n2 tv uv (hT.mono hn hX) hu
 obtain ⟨RES,hRES⟩ : ∃ x,x=rowU T w E:=⟨_,rfl⟩
 rw [← hRES]
 have HRES:Hide (RES=(rowU T w (E.drop 0)).map (fun x=>[]++x)):=⟨by rw [hRES,List.drop_zero]; cases rowU T w E <;> rfl⟩
 have hEI:(E.length:Int)≤100:=by omega
 clear hT hw hEV hE hin hok hRES hc hc3
 refine WC.enterP (noO_ok _ _) hG pl79 Tryz.func79 rfl (by decide +kernel) (Nat.le_of_ble_eq_true (by kernel_rfl)) ?_
 iterate 8 (all_goals try (first | with_reducible refine splitI (fun h=>?_) (fun h=>?_) | with_reducible refine splitBI (fun h=>?_) (fun h=>?_) | simp (config:={ maxSteps:=1000000 }) (disch:=first | assumption | omega | (simp; done) | fail) [Tryz.results79, *]))
 obtain ⟨c,hcc⟩ : ∃ c:Nat,(2 * (E.length:Int)).toNat=c:=⟨_,rfl⟩
 rw [hcc]
 have hc200:c≤200:=by omega
 clear hcc
 refine LX.ind (fun m gf H'=>∃ (k n2:Nat) (gL:Nat→Option Blk) (rv:AV) (r:List Int),k≤E.length∧m=E.length - k∧H'=⟨.fn gL,n2⟩∧n+1+1≤n2∧r.length≤300 * k∧Hide (∀ b,b < n→gL b=g b)∧gL n=some (.cells [c0,c1,c2,ev,c4,c5,tv] true 0)∧Hide (OutV gL (n+1) n2 (n+1) c r rv)∧Hide (RES=(rowU T w (E.drop k)).map (r ++ ·)) ∧
  gf 1=some wv∧gf 2=some (.ptr n 0)∧gf 6=some rv∧gf 17=some ev∧gf 18=some (.lit (.int .i64 E.length))∧gf 19=some (.lit (.int .i64 k))) (m0:=E.length) ?_ ?_
 ·refine ⟨0,n+1+1,_,_,[],Nat.zero_le _,rfl,rfl,Nat.le_refl _,Nat.le_refl _,⟨fun b hb=>?_⟩,?_,⟨.inl ⟨_,rfl,by omega,by omega,gput_eq,?_,rfl,Nat.zero_le _⟩⟩,HRES,by simp,by simp,by simp,by simp,by simp,by simp⟩
  ·simp (disch:=omega) only [gput_lt]
  ·simp (disch:=omega) only [gput_lt,gput_eq]
  ·rw [rep_len]; simp
 clear HRES
 rintro m gf H' ⟨k,n2,gL,rv,r,hk,rfl,rfl,hn2,hrk,HG,hgn,HGR,HRE,w1,w2,w6,w17,w18,w19⟩ ih
 refine LX.roundP (noO_ok _ _) hG pl79 (by decide +kernel) ?_
 by_cases hlt:k < E.length
 ·have hltI:(k:Int) < (E.length:Int):=by omega
  obtain ⟨a2,o2,qv,ha2,hia2,hc2',hq⟩:=HEV.out.at hlt
  rw [← HG.out a2 ha2] at hc2'
  have hem:=List.getElem_mem hlt
  have he3:=HE.out _ hem
  have HST:=Hide.mk (HRE.out.trans (congrArg _ (rowU_step (T:=T) (w:=w) hlt)))
  have HB:=Hide.mk (HBE.out _ hem gL n2 qv (by omega) HG.out (SliceV.mono (by omega) HG.out hq))
  have HK:=Hide.mk (HKN.out _ hem)
  clear hq HRE hem
  generalize E[k]=e at *
  iterate 8 (all_goals try (first | with_reducible refine splitI (fun h=>?_) (fun h=>?_) | with_reducible refine splitBI (fun h=>?_) (fun h=>?_) | simp (config:={ maxSteps:=1000000 }) (disch:=first | assumption | omega | (simp; done) | fail) [Tryz.results79, *]))
  refine WC.mono HB.out ?_
  rintro _ ⟨uv,g3,n3,rfl,hn3,hg3,hfu,hcu0⟩
  have HG3:=Hide.mk hg3
  have hgn3:=(hg3 n (by omega)).trans hgn
  have HKW:=Hide.mk (HK.out g3 n3 uv (by omega) (fun b hb=>(hg3 b (by omega)).trans (HG.out b hb)) hfu.rep)
  clear hg3 hfu HB HK hcu0
  iterate 8 (all_goals try (first | with_reducible refine splitI (fun h=>?_) (fun h=>?_) | with_reducible refine splitBI (fun h=>?_) (fun h=>?_) | simp (config:={ maxSteps:=1000000 }) (disch:=first | assumption | omega | (simp; done) | fail) [Tryz.results79, *]))
  refine WC.mono HKW.out ?_
  rintro _ ⟨kv,g4,n4,rfl,hn4,hg4,hak⟩
  have HG4:Hide (∀ b,b < n2→g4 b=gL b):=⟨fun b hb=>(hg4 b (by omega)).trans (HG3.out b hb)⟩
  have hgn4:=(HG4.out n (by omega)).trans hgn
  clear hg4 HKW HG3
  cases hA:ansM T 0 (w++e) with
  | none =>
   rw [hA] at hak HST
   have hkv:kv=.lit (.slice none 0 0):=hak
   have hR:RES=none:=HST.out
   clear hak HST hA
   subst hkv hR
   simp only [Option.isSome]
   iterate 8 (all_goals try (first | with_reducible refine splitI (fun h=>?_) (fun h=>?_) | with_reducible refine splitBI (fun h=>?_) (fun h=>?_) | simp (config:={ maxSteps:=1000000 }) (disch:=first | assumption | omega | (simp; done) | fail) [Tryz.results79, *]))
   exact ⟨_,_,_,⟨rfl,rfl,rfl⟩,by omega,fun b hb=>(HG4.out b (by omega)).trans (HG.out b hb),rfl⟩
  | some u =>
   rw [hA] at hak HST
   have hul:=ansM_len _ _ _ hA
   rw [List.length_append] at hul
   simp only [Option.isSome_some]
   obtain ⟨hfu,hcu⟩:=hak
   have hu0:0 < u.length - w.length:=by omega
   obtain ⟨sv2,hs2,hlo⟩:=SliceV.lo el65 hfu.rep hcu (k:=w.length) (by omega) (by rw [wdC_len,Nat.mul_one])
   have hwd:(wdC u).drop (w.length * 1)=wdC (u.drop w.length):=by simp [wdC,List.map_drop]
   rw [hwd] at hs2
   have hdl:(wdC (u.drop w.length)).length=(u.length - w.length) * 1:=by rw [wdC_len,List.length_drop,Nat.mul_one]
   have hall:=wdC_one (u.drop w.length)
   have hrl:(r++u.drop w.length).length=r.length+(u.length - w.length):=by rw [List.length_append,List.length_drop]
   have HST2:Hide (RES=(rowU T w (E.drop (k+1))).map ((r++u.drop w.length) ++ ·)):=⟨by
    rw [HST.out]
    dsimp only
    cases rowU T w (E.drop (k+1)) <;> simp⟩
   have HRL:=Hide.mk hrl
   clear HST hA hrl
   rcases HGR.out with ⟨Lo,rfl,hA1,hA2,hA3,hA4,hA5,hA6⟩ | ⟨h6,B,rfl,hC1,hC2,hC3⟩
   ·have hA3':=(HG4.out (n+1) (by omega)).trans hA3
    by_cases hroom:r.length+(u.length - w.length)≤c
    ·obtain ⟨a9,blk,ha9,hga9,hap⟩:=SliceV.apr (P:=Tryz.prog) (sz:=1) hs2 hu0 hdl
     have hrm:0+r.length * 1+(wdC (u.drop w.length)).length≤Lo.length:=by omega
     have HA5:=Hide.mk hA5
     clear hs2 hfu hA3 hA5
     iterate 8 (all_goals try (first | with_reducible refine splitI (fun h=>?_) (fun h=>?_) | with_reducible refine splitBI (fun h=>?_) (fun h=>?_) | simp (config:={ maxSteps:=1000000 }) (disch:=first | assumption | omega | (simp; done) | fail) [Tryz.results79, *]))
     refine ih.out (E.length - (k+1)) _ _ (by omega) ⟨k+1,n4,_,.sl (n+1) 0 (r.length+(u.length - w.length)) c,r++u.drop w.length,by omega,rfl,rfl,by omega,by rw [HRL.out]; omega,⟨fun b hb=>?_⟩,?_,⟨.inl ⟨putR Lo r.length (wdC (u.drop w.length)),by rw [HRL.out],by omega,by omega,gput_eq,?_,?_,by rw [HRL.out]; exact hroom⟩⟩,HST2,by simp [*],by simp [*],by simp [*],by simp [*],by simp [*],by simp⟩
     ·simp (disch:=omega) only [gput_lt,gput_ne]; exact (HG4.out b (by omega)).trans (HG.out b hb)
     ·simp (disch:=omega) only [gput_lt,gput_ne]; exact hgn4
     ·rw [putR_len (by omega)]; exact hA4
     ·have h9:=putR_take (l:=Lo) (new:=wdC (u.drop w.length)) (off:=r.length) (by omega)
      rw [HA5.out,show r.length+(wdC (u.drop w.length)).length=(r++u.drop w.length).length by rw [HRL.out]; omega] at h9
      rw [h9]; simp [wdC]
    ·obtain ⟨a9,blk,ha9,hga9,hap⟩:=SliceV.apo (P:=Tryz.prog) (sz:=1) hs2 hu0 (by omega) hdl
     have hlt9:c < r.length+(u.length - w.length):=by omega
     have hrm:0+r.length * 1≤Lo.length:=by omega
     have hrm4:r.length≤40000:=by omega
     have HA5:=Hide.mk hA5
     clear hs2 hfu hA3 hA5
     iterate 8 (all_goals try (first | with_reducible refine splitI (fun h=>?_) (fun h=>?_) | with_reducible refine splitBI (fun h=>?_) (fun h=>?_) | simp (config:={ maxSteps:=1000000 }) (disch:=first | assumption | omega | (simp; done) | fail) [Tryz.results79, *]))
     refine ih.out (E.length - (k+1)) _ _ (by omega) ⟨k+1,n4+1,_,.slq n4 0 (r.length+(u.length - w.length)) 0,r++u.drop w.length,by omega,rfl,rfl,by omega,by rw [HRL.out]; omega,⟨fun b hb=>?_⟩,?_,⟨.inr ⟨by rw [HRL.out]; omega,n4,by rw [HRL.out],by omega,by omega,gput_eq.trans ?_⟩⟩,HST2,by simp [*],by simp [*],by simp [*],by simp [*],by simp [*],by simp⟩
     ·simp (disch:=omega) only [gput_lt,gput_ne]; exact (HG4.out b (by omega)).trans (HG.out b hb)
     ·simp (disch:=omega) only [gput_lt,gput_ne]; exact hgn4
     ·have h9:=HA5.out
      simp [h9,wdC]
   ·obtain ⟨a9,blk,ha9,hga9,hap⟩:=SliceV.apq (P:=Tryz.prog) (sz:=1) hs2 hu0 (by omega) hdl
    have hB4:=(HG4.out B (by omega)).trans hC3
    have hr4:r.length≤40000:=by omega
    have hrw1:(wdC r).length=r.length * 1:=by rw [wdC_len,Nat.mul_one]
    clear hs2 hfu hC3
    iterate 8 (all_goals try (first | with_reducible refine splitI (fun h=>?_) (fun h=>?_) | with_reducible refine splitBI (fun h=>?_) (fun h=>?_) | simp (config:={ maxSteps:=1000000 }) (disch:=first | assumption | omega | (simp; done) | fail) [Tryz.results79, *]))
    refine ih.out (E.length - (k+1)) _ _ (by omega) ⟨k+1,n4+1,_,.slq n4 0 (r.length+(u.length - w.length)) 0,r++u.drop w.length,by omega,rfl,rfl,by omega,by rw [HRL.out]; omega,⟨fun b hb=>?_⟩,?_,⟨.inr ⟨by rw [HRL.out]; omega,n4,by rw [HRL.out],by omega,by omega,gput_eq.trans (by simp [wdC])⟩⟩,HST2,by simp [*],by simp [*],by simp [*],by simp [*],by simp [*],by simp⟩
    ·simp (disch:=omega) only [gput_lt,gput_ne]; exact (HG4.out b (by omega)).trans (HG.out b hb)
    ·simp (disch:=omega) only [gput_lt,gput_ne]; exact hgn4
 ·have hltI:¬(k:Int) < (E.length:Int):=by omega
  have hR:RES=some r:=by
   rw [HRE.out,List.drop_eq_nil_of_le (by omega)]
   simp [rowU]
  clear HRE
  subst hR
  have HCL:=Hide.mk (Clone_w r (by omega) gL n2 rv HGR.out.rep)
  iterate 8 (all_goals try (first | with_reducible refine splitI (fun h=>?_) (fun h=>?_) | with_reducible refine splitBI (fun h=>?_) (fun h=>?_) | simp (config:={ maxSteps:=1000000 }) (disch:=first | assumption | omega | (simp; done) | fail) [Tryz.results79, *]))
  refine WC.mono HCL.out ?_
  rintro _ ⟨sv1,g5,n5,rfl,hn5,hg5,hcl⟩
  have HG5:=Hide.mk hg5
  clear hg5
  iterate 8 (all_goals try (first | with_reducible refine splitI (fun h=>?_) (fun h=>?_) | with_reducible refine splitBI (fun h=>?_) (fun h=>?_) | simp (config:={ maxSteps:=1000000 }) (disch:=first | assumption | omega | (simp; done) | fail) [Tryz.results79, *]))
  refine WC.mono (Clip_t r g5 n2 n5 sv1 hcl) ?_
  rintro _ ⟨sv3,rfl,hf3,ht3⟩
  have HF3:=Hide.mk hf3
  have HT3:=Hide.mk ht3
  clear hf3 ht3 hcl
  iterate 8 (all_goals try (first | with_reducible refine splitI (fun h=>?_) (fun h=>?_) | with_reducible refine splitBI (fun h=>?_) (fun h=>?_) | simp (config:={ maxSteps:=1000000 }) (disch:=first | assumption | omega | (simp; done) | fail) [Tryz.results79, *]))
  exact ⟨_,_,_,⟨rfl,rfl,rfl⟩,by omega,fun b hb=>(HG5.out b (by omega)).trans (HG.out b hb),HF3.out.keep (by omega) (Nat.le_refl _) (fun _ _ _=>rfl),HT3.out⟩
end Go.Ai
end
section
namespace Go.Ai
open Go.Proofs
set_option maxRecDepth 10000
set_option maxHeartbeats 40000000
theorem lhas_w {l:List (List Int)} (hll:l.length≤100000) {w:List Int} (hwl:w.length≤1000) (hwls:∀ x∈l,x.length≤1000) (g:Nat→Option Blk) (n:Nat) (lv sv:AV) (h1:ListV g n l lv) (hw:RepW g n w sv) :
  WC 0 Tryz.prog 42 [lv,sv] ⟨.fn g,n⟩ fun r=>r=.ret (.lit (.bool (decide (w∈l)))) ⟨.fn g,n⟩:=by
 have hlen:=@lenV Tryz.prog _ _ _ _ _ h1.choose_spec.1
 have H1:=Hide.mk h1
 have HW:=Hide.mk hw
 have HWL:=Hide.mk hwls
 obtain ⟨res,hres⟩ : ∃ b,b=decide (w∈l):=⟨_,rfl⟩
 rw [← hres]
 have HRE:=Hide.mk hres
 clear h1 hw hwls hres
 refine WC.enterP (noO_ok _ _) hG [] Tryz.func42 rfl (by decide +kernel) (Nat.le_of_ble_eq_true (by kernel_rfl)) ?_
 iterate 8 (all_goals try (first | with_reducible refine splitI (fun h=>?_) (fun h=>?_) | with_reducible refine splitBI (fun h=>?_) (fun h=>?_) | simp (config:={ maxSteps:=1000000 }) (disch:=first | assumption | omega | (simp; done) | fail) [Tryz.results42, *]))
 refine LX.ind (fun m gf H'=>∃ k:Nat,k≤l.length∧m=l.length - k∧H'=⟨.fn g,n⟩∧Hide (w ∉ l.take k)∧gf 0=some lv∧gf 1=some sv∧gf 5=some (.lit (.int .i64 k))) (m0:=l.length) ?_ ?_
 ·exact ⟨0,Nat.zero_le _,rfl,rfl,⟨by simp⟩,by simp,by simp,by simp⟩
 rintro m gf H' ⟨k,hk,rfl,rfl,HN,w0,w1,w5⟩ ih
 refine LX.roundP (noO_ok _ _) hG [] (by decide +kernel) ?_
 by_cases hlt:k < l.length
 ·have hkI:(k:Int) < (l.length:Int):=by omega
  obtain ⟨a,off,q,ha,hia,hc,hq⟩:=H1.out.at hlt
  have HS:=Hide.mk (rsame_w l[k] w (by have:=HWL.out _ (List.getElem_mem hlt); omega) (by omega) g n q sv hq HW.out)
  have hwk:Hide (w ∉ l.take (k+1)∨l[k]=w):=⟨by
   by_cases h:l[k]=w
   ·exact .inr h
   ·refine .inl ?_
    rw [take_snoc hlt,List.mem_append,List.mem_singleton]
    rintro (h1 | h1)
    ·exact HN.out h1
    ·exact h h1.symm⟩
  have HIX:Hide (l[k]=w→res=true):=⟨fun h=>by rw [HRE.out,← h]; exact decide_eq_true (List.getElem_mem hlt)⟩
  generalize l[k]=x at *
  iterate 8 (all_goals try (first | with_reducible refine splitI (fun h=>?_) (fun h=>?_) | with_reducible refine splitBI (fun h=>?_) (fun h=>?_) | simp (config:={ maxSteps:=1000000 }) (disch:=first | assumption | omega | (simp; done) | fail) [Tryz.results42, *]))
  refine WC.mono HS.out ?_
  rintro _ rfl
  by_cases hx:x=w
  ·have hix:=HIX.out hx
   subst hix
   simp only [hx,decide_true]
   iterate 8 (all_goals try (first | with_reducible refine splitI (fun h=>?_) (fun h=>?_) | with_reducible refine splitBI (fun h=>?_) (fun h=>?_) | simp (config:={ maxSteps:=1000000 }) (disch:=first | assumption | omega | (simp; done) | fail) [Tryz.results42, *]))
  ·have hnm:w ∉ l.take (k+1):=hwk.out.resolve_right hx
   simp only [hx,decide_false]
   iterate 8 (all_goals try (first | with_reducible refine splitI (fun h=>?_) (fun h=>?_) | with_reducible refine splitBI (fun h=>?_) (fun h=>?_) | simp (config:={ maxSteps:=1000000 }) (disch:=first | assumption | omega | (simp; done) | fail) [Tryz.results42, *]))
   exact ih.out (l.length - (k+1)) _ _ (by omega) ⟨k+1,by omega,rfl,rfl,⟨hnm⟩,by simp [*],by simp [*],by simp⟩
 ·have hkI:¬(k:Int) < (l.length:Int):=by omega
  have hre:res=false:=by
   have h2:=HN.out
   rw [List.take_of_length_le (by omega)] at h2
   rw [HRE.out]; exact decide_eq_false h2
  subst hre
  iterate 8 (all_goals try (first | with_reducible refine splitI (fun h=>?_) (fun h=>?_) | with_reducible refine splitBI (fun h=>?_) (fun h=>?_) | simp (config:={ maxSteps:=1000000 }) (disch:=first | assumption | omega | (simp; done) | fail) [Tryz.results42, *]))
end Go.Ai
end
section
namespace Go.Ai
open Go.Proofs
set_option maxRecDepth 10000
set_option maxHeartbeats 40000000
theorem putL_w {l:List (List Int)} (hll:l.length≤30000) {w:List Int} (hwl:w.length≤1000) (hwls:∀ x∈l,x.length≤1000) (g gk:Nat→Option Blk) (hgk:∀ a z,gk a=some z→g a=some z) (n:Nat) (lv wv:AV) (svs:List AV) (hsv:SliceV gk n lv l.length svs) (hr:RowsW gk n l svs) (hw:RepW gk n w wv) :
  WC 0 Tryz.prog 60 [lv,wv] ⟨.fn g,n⟩ fun r=>∃ ov g' n',r=.ret ov ⟨.fn g',n'⟩∧n≤n'∧(∀ b,b < n→g' b=g b)∧((putM l w=l∧ov=lv)∨(putM l w=l++[w]∧∃ B,GrowV g' n n' B ov (putM l w).length 1 (svs++[wv]))):=by
 replace hsv:SliceV g n lv l.length svs:=SliceV.ext (Nat.le_refl _) (fun a x _ hx=>hgk a x hx) hsv
 have hlen:=@lenV Tryz.prog _ _ _ _ _ hsv
 have h1l:oneC lv=true:=hsv.one
 have h1w:oneC wv=true:=hw.one
 have hcw:cellsOf wv=[wv]:=hw.cell
 have h2w:allOne [wv]=true:=by simp [h1w]
 have hsl:svs.length=l.length:=hr.1
 have HH:=Hide.mk (lhas_w (by omega) hwl hwls g n lv wv ⟨svs,hsv,hr.ext (Nat.le_refl _) fun a x _ hx=>hgk a x hx⟩ (SliceV.ext (Nat.le_refl _) (fun a x _ hx=>hgk a x hx) hw))
 have HR:=Hide.mk hr
 have HW:=Hide.mk hw
 have HSV:=Hide.mk hsv
 clear hr hw hsv hwls hgk
 refine WC.enterP (noO_ok _ _) hG [] Tryz.func60 rfl (by decide +kernel) (Nat.le_of_ble_eq_true (by kernel_rfl)) ?_
 iterate 8 (all_goals try (first | with_reducible refine splitI (fun h=>?_) (fun h=>?_) | with_reducible refine splitBI (fun h=>?_) (fun h=>?_) | simp (config:={ maxSteps:=1000000 }) (disch:=first | assumption | omega | (simp; done) | fail) [Tryz.results60, *]))
 refine WC.mono HH.out ?_
 rintro _ rfl
 by_cases hin:w∈l
 ·have hpm:putM l w=l:=if_pos hin
  simp only [hin,decide_true]
  have HPM:=Hide.mk hpm
  clear hpm
  iterate 8 (all_goals try (first | with_reducible refine splitI (fun h=>?_) (fun h=>?_) | with_reducible refine splitBI (fun h=>?_) (fun h=>?_) | simp (config:={ maxSteps:=1000000 }) (disch:=first | assumption | omega | (simp; done) | fail) [Tryz.results60, *]))
  exact ⟨_,_,_,⟨rfl,rfl,rfl⟩,Nat.le_refl _,fun _ _=>rfl,.inl ⟨HPM.out,rfl⟩⟩
 ·have hpm:putM l w=l++[w]:=if_neg hin
  simp only [hin,decide_false]
  by_cases hl0:l.length=0
  ·have hsv:=HSV.out
   rw [hl0] at hsv
   have hap:=fun {H:Mem} {ev:Ev} {d:Option Tmp} {ty:TypeId} {p:String} {af:Array Edge} {gd:Option (Nat×Bool)} {x y:Operand} {s t:TypeId} {a off:Nat} {hx:ev x=some (.sl a off 0 0)} {hy:ev y=some lv} (hp:(apI Tryz.prog s t).isSome=true)=>SliceV.ap00 (P:=Tryz.prog) hsv (H:=H) (ev:=ev) (d:=d) (ty:=ty) (p:=p) (af:=af) (gd:=gd) (x:=x) (y:=y) (a:=a) (off:=off) (hx:=hx) (hy:=hy) hp
   have HPM:=Hide.mk hpm
   have HL0:=Hide.mk hl0
   clear hsv hpm hl0
   iterate 8 (all_goals try (first | with_reducible refine splitI (fun h=>?_) (fun h=>?_) | with_reducible refine splitBI (fun h=>?_) (fun h=>?_) | simp (config:={ maxSteps:=1000000 }) (disch:=first | assumption | omega | (simp; done) | fail) [Tryz.results60, *]))
   have hs0:svs=[]:=List.length_eq_zero_iff.1 (by rw [hsl]; exact HL0.out)
   rw [hs0]
   refine ⟨_,_,_,⟨rfl,rfl,rfl⟩,by omega,fun b hb=>by simp (disch:=omega) only [gput_lt],.inr ⟨HPM.out,n+1+1,.inr ⟨by rw [HPM.out]; simp,by rw [HPM.out]; simp [HL0.out],by omega,by omega,gput_eq,by rw [HPM.out]; simp [HL0.out]⟩⟩⟩
  ·have hsv:=HSV.out
   obtain ⟨a9,blk,ha9,hga9,hap⟩:=SliceV.ap0 (P:=Tryz.prog) (sz:=1) hsv (by omega) (by omega) (by rw [hsl,Nat.mul_one])
   have hsl1:svs.length=l.length * 1:=by omega
   have HPM:=Hide.mk hpm
   clear hsv hpm hsl
   iterate 8 (all_goals try (first | with_reducible refine splitI (fun h=>?_) (fun h=>?_) | with_reducible refine splitBI (fun h=>?_) (fun h=>?_) | simp (config:={ maxSteps:=1000000 }) (disch:=first | assumption | omega | (simp; done) | fail) [Tryz.results60, *]))
   exact ⟨_,_,_,⟨rfl,rfl,rfl⟩,by omega,fun b hb=>by simp (disch:=omega) only [gput_lt,gput_ne],.inr ⟨HPM.out,n+1+1+1,.inr ⟨by rw [HPM.out]; simp,by rw [HPM.out]; simp,by omega,by omega,gput_eq,by rw [HPM.out]; simp; omega⟩⟩⟩
end Go.Ai
end
section
namespace Go.Ai
open Go.Proofs
set_option maxRecDepth 10000
set_option maxHeartbeats 40000000
theorem capV_grow {g:Nat→Option Blk} {lo n B len sz:Nat} {sv:AV} {cs:List AV} (h:GrowV g lo n B sv len sz cs) : CapV sv:=by
 intro a o k c e
 rcases h with ⟨_,_,h3⟩ | ⟨_,h3,_⟩
 ·rw [h3] at e; cases e
 ·rw [h3] at e; cases e
def FreshC (g:Nat→Option Blk) (lo n:Nat) (w:List Int) (sv:AV) : Prop:=FreshW g lo n w sv∧CapV sv
def LogC (g:Nat→Option Blk) (lo n B:Nat) (ts:List (List Int×List Int)) (sv:AV) : Prop:=∃ cs,GrowV g lo n B sv ts.length 2 cs∧RowsF g lo n B ts cs∧∀ v∈cs,CapV v
theorem LogC.logF {g:Nat→Option Blk} {lo n B:Nat} {ts:List (List Int×List Int)} {sv:AV} (h:LogC g lo n B ts sv) : LogF g lo n B ts sv:=let ⟨cs,h1,h2,_⟩:=h; ⟨cs,h1,h2⟩
theorem LogC.one {g:Nat→Option Blk} {lo n B:Nat} {ts:List (List Int×List Int)} {sv:AV} (h:LogC g lo n B ts sv) : oneC sv=true:=h.logF.one
theorem LogC.logX {g:Nat→Option Blk} {lo n B:Nat} {ts:List (List Int×List Int)} {sv:AV} (h:LogC g lo n B ts sv) : LogX g n ts sv:=by
 obtain ⟨cs,h1,h2,h3⟩:=h
 refine ⟨cs,SliceV.ext (Nat.le_refl _) (fun a x _ hx=>?_) h1.slice,h2.rows,h3⟩
 split at hx
 ·exact hx
 ·cases hx
theorem LogC.keep {g g' : Nat→Option Blk} {lo lo' n n' B:Nat} {ts:List (List Int×List Int)} {sv:AV} (h:LogC g lo n B ts sv) (h0:lo'≤lo) (h2:n≤n') (hg:∀ a,lo≤a→a < n→g' a=g a) : LogC g' lo' n' B ts sv:=by
 obtain ⟨cs,h1,h3,h4⟩:=h
 refine ⟨cs,?_,h3.keep h0 h2 (.inr (.inl rfl)) fun a h4 h5 _=>hg a h4 h5,h4⟩
 rcases h1 with h1 | ⟨k1,k2,k3,k4,k5,k6⟩
 ·exact .inl h1
 ·exact .inr ⟨k1,k2,by omega,by omega,(hg B k3 k4).trans k5,k6⟩
theorem rRun_c {M:MachM} (hM:M.ok) (w:List Int) (hwl:w.length≤300) (hw:inW w M.inp=true) (g:Nat→Option Blk) (n:Nat) (ms:List AV) (wv:AV) (hr:RepM g n M ms) (hv:RepW g n w wv) :
  WC 0 Tryz.prog 45 [.agg ms,.lit (.int .i64 0),wv] ⟨.fn g,n⟩ fun r=>∃ sv g' n',r=.ret sv ⟨.fn g',n'⟩∧n≤n'∧(∀ b,b < n→g' b=g b)∧FreshC g' n n' (runM M 0 w) sv:=by
 obtain ⟨rv,rfl,h1r⟩:=hr.one
 have h1a:allOne [.lit (.int .i64 M.inp),.lit (.int .i64 M.out),rv]=true:=by simp [h1r]
 have hlen:=@lenV Tryz.prog _ _ _ _ _ hv
 have HR:=Hide.mk hr
 have HV:=Hide.mk hv
 have HM:=Hide.mk hM
 have HW:=Hide.mk hw
 have hr0:=hM.2.2.2.2.1
 clear hr hv hM hw
 refine WC.enterP (noO_ok _ _) hG pl45 Tryz.func45 rfl (by decide +kernel) (Nat.le_of_ble_eq_true (by kernel_rfl)) ?_
 iterate 8 (all_goals try (first | with_reducible refine splitI (fun h=>?_) (fun h=>?_) | with_reducible refine splitBI (fun h=>?_) (fun h=>?_) | simp (config:={ maxSteps:=1000000 }) (disch:=first | assumption | omega | (simp; done) | fail) [Tryz.results45, *]))
 refine LX.ind (fun m gf H'=>∃ (k n' : Nat) (gL:Nat→Option Blk) (B:Nat) (sv:AV) (cs:List AV) (s:Int),k≤w.length∧m=w.length - k∧H'=⟨.fn gL,n'⟩∧n+1≤n'∧Hide (∀ b,b < n→gL b=g b)∧gL n=some (.cells [.lit (.int .i64 M.inp),.lit (.int .i64 M.out),rv] true 0) ∧
  Hide (GrowV gL (n+1) n' B sv k 1 cs)∧Hide (cs=wdC (runM M 0 (w.take k)))∧Hide (s=aftM M 0 (w.take k)∧stOK M s)∧gf 1=some (.lit (.int .i64 s))∧gf 2=some wv∧gf 3=some (.ptr n 0)∧gf 7=some sv∧gf 8=some (.lit (.int .i64 k))) (m0:=w.length) ?_ ?_
 ·exact ⟨0,_,_,0,_,[],0,Nat.zero_le _,rfl,rfl,Nat.le_refl _,⟨fun b hb=>gput_lt hb⟩,gput_eq,⟨.inl ⟨rfl,rfl,rfl⟩⟩,⟨rfl⟩,⟨rfl,.inr ⟨0,rfl,by omega⟩⟩,by simp,by simp,by simp,by simp,by simp⟩
 rintro m gf H' ⟨k,n',gL,B,sv,cs,s,hk,rfl,rfl,hn',HG,hgn,HGR,HC,HST,w1,w2,w3,w7,w8⟩ ih
 refine LX.roundP (noO_ok _ _) hG pl45 (by decide +kernel) ?_
 by_cases hlt:k < w.length
 ·have hltI:(k:Int) < (w.length:Int):=by omega
  obtain ⟨a2,off,ha2,hia,hcell⟩:=SliceV.mono (Nat.le_of_lt hn') HG.out HV.out |> fun h=>RepW.at (w:=w) h hlt
  have htk:=take_snoc hlt
  have hx:=of_decide_eq_true (List.all_eq_true.1 HW.out _ (List.getElem_mem hlt))
  have HN:=Hide.mk (fun (gX:Nat→Option Blk) (n2:Nat) (hn2:n≤n2) (hX:∀ b,b < n→gX b=g b)=>rNext_w HM.out s w[k] HST.out.2 hx.1 hx.2 gX n2 _ (HR.out.mono hn2 hX))
  have HA:Hide (aftM M 0 (w.take (k+1))=(nextM M s w[k]).1):=⟨by rw [htk,aftM_app,← HST.out.1]; rfl⟩
  have HRN:Hide (runM M 0 (w.take (k+1))=runM M 0 (w.take k)++[(nextM M s w[k]).2]):=⟨by rw [htk,runM_app,← HST.out.1]; rfl⟩
  have HOK:=Hide.mk (edgeOK_st (nextM_ok HM.out HST.out.2 hx.1 hx.2)).1
  clear hx htk
  generalize w[k]=x at *
  generalize nextM M s x=e at *
  obtain ⟨to,eo⟩:=e
  dsimp only at *
  iterate 8 (all_goals try (first | with_reducible refine splitI (fun h=>?_) (fun h=>?_) | with_reducible refine splitBI (fun h=>?_) (fun h=>?_) | simp (config:={ maxSteps:=1000000 }) (disch:=first | assumption | omega | (simp; done) | fail) [Tryz.results45, *]))
  refine WC.mono (HN.out _ _ (by omega) fun b (hb:b < n)=>(gput_lt (by omega)).trans (HG.out b hb)) ?_
  rintro _ ⟨g2,n2,rfl,hn2,hX⟩
  have HG2:Hide (∀ b,b < n→g2 b=g b):=⟨fun b hb=>(hX b (by omega)).trans ((gput_lt (by omega)).trans (HG.out b hb))⟩
  have hnn2:n'+1≤n2:=hn2
  have hg2n:g2 n=some (.cells [.lit (.int .i64 M.inp),.lit (.int .i64 M.out),rv] true 0):=(hX n (by omega)).trans ((gput_lt (by omega)).trans hgn)
  have hg2e:g2 n'=some (.cells [.lit (.int .i64 0),.lit (.int .i64 0)] true 0):=(hX n' (by omega)).trans gput_eq
  have HX:=Hide.mk hX
  have HEND:Hide (∀ cs',cs'=cs++[.lit (.int .i64 eo)]→cs'=wdC (runM M 0 (w.take (k+1)))∧cs'.length=(k+1) * 1):=⟨fun cs' h=>by
   rw [HRN.out,wdC_snoc,← HC.out]
   refine ⟨h,?_⟩
   rw [h,HC.out,List.length_append,wdC_len,runM_len,List.length_take]
   simp; omega⟩
  clear hX hn2 HN hia hcell ha2
  rcases HGR.out with ⟨hk0,hc0,hs0⟩ | ⟨hk0,hs0,hB1,hB2,hB3,hB4⟩
  ·subst hs0
   have HZ:=Hide.mk (And.intro hk0 hc0)
   clear hk0 hc0
   iterate 8 (all_goals try (first | with_reducible refine splitI (fun h=>?_) (fun h=>?_) | with_reducible refine splitBI (fun h=>?_) (fun h=>?_) | simp (config:={ maxSteps:=1000000 }) (disch:=first | assumption | omega | (simp; done) | fail) [Tryz.results45, *]))
   have HQ:=HEND.out [.lit (.int .i64 eo)] (by rw [HZ.out.2]; rfl)
   refine ih.out (w.length - (k+1)) _ _ (by omega) ⟨k+1,n2+1+1,_,n2+1,.slq (n2+1) 0 (k+1) 0,_,to,by omega,rfl,rfl,by omega,⟨fun b hb=>?_⟩,?_,⟨.mk gput_eq (by omega) (by omega) HQ.2⟩,⟨HQ.1⟩,⟨HA.out.symm,HOK.out⟩,by simp,by simp [*],by simp [*],by rw [HZ.out.1]; simp,by simp⟩
   ·simp (disch:=omega) only [gput_lt]; exact HG2.out b hb
   ·simp (disch:=omega) only [gput_lt]; exact hg2n
  ·subst hs0
   have hB5:g2 B=some (.cells cs true 1):=(HX.out B (by omega)).trans ((gput_lt hB2).trans hB3)
   clear hB3
   iterate 8 (all_goals try (first | with_reducible refine splitI (fun h=>?_) (fun h=>?_) | with_reducible refine splitBI (fun h=>?_) (fun h=>?_) | simp (config:={ maxSteps:=1000000 }) (disch:=first | assumption | omega | (simp; done) | fail) [Tryz.results45, *]))
   have HQ:=HEND.out _ rfl
   refine ih.out (w.length - (k+1)) _ _ (by omega) ⟨k+1,n2+1+1,_,n2+1,.slq (n2+1) 0 (k+1) 0,_,to,by omega,rfl,rfl,by omega,⟨fun b hb=>?_⟩,?_,⟨.mk gput_eq (by omega) (by omega) HQ.2⟩,⟨HQ.1⟩,⟨HA.out.symm,HOK.out⟩,by simp,by simp [*],by simp [*],by simp,by simp⟩
   ·simp (disch:=omega) only [gput_lt,gput_ne]; exact HG2.out b hb
   ·simp (disch:=omega) only [gput_lt,gput_ne]; exact hg2n
 ·have hltI:¬(k:Int) < (w.length:Int):=by omega
  have hkw:k=w.length:=by omega
  have HREP:Hide (FreshC gL n n' (runM M 0 w) sv):=⟨by
   have h1:=HGR.out
   rw [HC.out,hkw,List.take_length] at h1
   exact ⟨(h1.fresh (runM_len w 0).symm).keep (Nat.le_succ n) (Nat.le_refl _) fun _ _ _=>rfl,capV_grow h1⟩⟩
  clear hkw
  iterate 8 (all_goals try (first | with_reducible refine splitI (fun h=>?_) (fun h=>?_) | with_reducible refine splitBI (fun h=>?_) (fun h=>?_) | simp (config:={ maxSteps:=1000000 }) (disch:=first | assumption | omega | (simp; done) | fail) [Tryz.results45, *]))
  exact ⟨_,_,_,⟨rfl,rfl,rfl⟩,by omega,HG.out,HREP.out⟩
theorem Word_c (bs:List Nat) (hb:∀ b∈bs,b < 256) (I most:Nat) (hI0:0 < I) (hI:I≤16) (hm:most≤12) (g:Nat→Option Blk) (n:Nat) (bv:AV) (hv:RepB g n bs bv) :
  WC 0 Tryz.prog 44 [bv,.lit (.int .i64 I),.lit (.int .i64 most)] ⟨.fn g,n⟩ fun r=>∃ sv g' n',r=.ret sv ⟨.fn g',n'⟩∧n≤n'∧(∀ b,b < n→g' b=g b)∧FreshC g' n n' (wordG bs I most) sv:=by
 have hlen:=@lenV Tryz.prog _ _ _ _ _ hv
 have HV:=Hide.mk hv
 have HBS:=Hide.mk hb
 clear hv hb
 refine WC.enterP (noO_ok _ _) hG [] Tryz.func44 rfl (by decide +kernel) (Nat.le_of_ble_eq_true (by kernel_rfl)) ?_
 iterate 8 (all_goals try (first | with_reducible refine splitI (fun h=>?_) (fun h=>?_) | with_reducible refine splitBI (fun h=>?_) (fun h=>?_) | simp (config:={ maxSteps:=1000000 }) (disch:=first | assumption | omega | (simp; done) | fail) [Tryz.results44, *]))
 refine LX.ind (fun m gf H'=>∃ (k n' : Nat) (gL:Nat→Option Blk) (B:Nat) (sv:AV) (cs:List AV),k≤bs.length∧k≤most∧m=most - k∧H'=⟨.fn gL,n'⟩∧n≤n'∧Hide (∀ b,b < n→gL b=g b) ∧
  Hide (GrowV gL n n' B sv k 1 cs)∧Hide (cs=wdC ((bs.take k).map fun b=>((b % I:Nat) : Int)))∧gf 0=some bv∧gf 1=some (.lit (.int .i64 I))∧gf 2=some (.lit (.int .i64 most))∧gf 7=some sv∧gf 8=some (.lit (.int .i64 k))) (m0:=most) ?_ ?_
 ·exact ⟨0,_,_,0,_,[],Nat.zero_le _,Nat.zero_le _,rfl,rfl,Nat.le_refl _,⟨fun b hb=>rfl⟩,⟨.inl ⟨rfl,rfl,rfl⟩⟩,⟨rfl⟩,by simp,by simp,by simp,by simp,by simp⟩
 rintro m gf H' ⟨k,n',gL,B,sv,cs,hk,hkm,rfl,rfl,hn',HG,HGR,HC,w0,w1,w2,w7,w8⟩ ih
 refine LX.roundP (noO_ok _ _) hG [] (by decide +kernel) ?_
 have fin:¬(k < bs.length∧k < most)→Hide (FreshC gL n n' (wordG bs I most) sv):=fun h=>⟨by
  have h1:=HGR.out
  have e:bs.take k=bs.take most:=by
   by_cases h2:k < most
   ·rw [List.take_of_length_le (by omega),List.take_of_length_le (by omega)]
   ·rw [show k=most by omega]
  rw [HC.out,e] at h1
  exact ⟨h1.fresh (by rw [List.length_map,← e,List.length_take]; omega),capV_grow h1⟩⟩
 have FIN:=Hide.mk fin
 clear fin
 by_cases hlt:k < bs.length
 ·have hltI:(k:Int) < (bs.length:Int):=by omega
  by_cases hlm:k < most
  ·have hlmI:(k:Int) < (most:Int):=by omega
   obtain ⟨a2,off,ha2,hia,hcell⟩:=RepB.at (n:=n') (w:=bs) (SliceV.mono hn' HG.out HV.out) hlt
   have hx:=HBS.out _ (List.getElem_mem hlt)
   have HEND:Hide (∀ cs',cs'=cs++[.lit (.int .i64 ((bs[k] % I:Nat) : Int))]→cs'=wdC ((bs.take (k+1)).map fun b=>((b % I:Nat) : Int))∧cs'.length=(k+1) * 1):=⟨fun cs' h=>by
    rw [take_snoc hlt,List.map_append,List.map_singleton,wdC_snoc,← HC.out]
    refine ⟨h,?_⟩
    rw [h,HC.out,List.length_append,wdC_len,List.length_map,List.length_take]
    simp; omega⟩
   generalize bs[k]=x at *
   have hrem:(x:Int).tmod (I:Int)=((x % I:Nat) : Int):=(Int.ofNat_tmod x I).symm
   have hxi:x % I < 256:=Nat.lt_of_le_of_lt (Nat.mod_le x I) hx
   generalize x % I=y at *
   have hI1:¬(I:Int)=0:=by omega
   have hI2:¬I=0:=by omega
   rcases HGR.out with ⟨hk0,hc0,hs0⟩ | ⟨hk0,hs0,hB1,hB2,hB3,hB4⟩
   ·subst hs0
    have HZ:=Hide.mk (And.intro hk0 hc0)
    clear hk0 hc0
    iterate 8 (all_goals try (first | with_reducible refine splitI (fun h=>?_) (fun h=>?_) | with_reducible refine splitBI (fun h=>?_) (fun h=>?_) | simp (config:={ maxSteps:=1000000 }) (disch:=first | assumption | omega | (simp; done) | fail) [Tryz.results44, *]))
    have HQ:=HEND.out [.lit (.int .i64 (y:Int))] (by rw [HZ.out.2]; rfl)
    refine ih.out (most - (k+1)) _ _ (by omega) ⟨k+1,n'+1+1,_,n'+1,.slq (n'+1) 0 (k+1) 0,_,by omega,by omega,rfl,rfl,by omega,⟨fun b hb=>?_⟩,⟨.mk gput_eq (by omega) (by omega) HQ.2⟩,⟨HQ.1⟩,by simp [*],by simp [*],by simp [*],by rw [HZ.out.1]; simp,by simp⟩
    simp (disch:=omega) only [gput_lt]; exact HG.out b hb
   ·subst hs0
    iterate 8 (all_goals try (first | with_reducible refine splitI (fun h=>?_) (fun h=>?_) | with_reducible refine splitBI (fun h=>?_) (fun h=>?_) | simp (config:={ maxSteps:=1000000 }) (disch:=first | assumption | omega | (simp; done) | fail) [Tryz.results44, *]))
    have HQ:=HEND.out _ rfl
    refine ih.out (most - (k+1)) _ _ (by omega) ⟨k+1,n'+1+1,_,n'+1,.slq (n'+1) 0 (k+1) 0,_,by omega,by omega,rfl,rfl,by omega,⟨fun b hb=>?_⟩,⟨.mk gput_eq (by omega) (by omega) HQ.2⟩,⟨HQ.1⟩,by simp [*],by simp [*],by simp [*],by simp,by simp⟩
    simp (disch:=omega) only [gput_lt,gput_ne]; exact HG.out b hb
  ·have hlmI:¬(k:Int) < (most:Int):=by omega
   have HF:=FIN.out (by omega)
   iterate 8 (all_goals try (first | with_reducible refine splitI (fun h=>?_) (fun h=>?_) | with_reducible refine splitBI (fun h=>?_) (fun h=>?_) | simp (config:={ maxSteps:=1000000 }) (disch:=first | assumption | omega | (simp; done) | fail) [Tryz.results44, *]))
   exact ⟨_,_,_,⟨rfl,rfl,rfl⟩,by omega,HG.out,HF.out⟩
 ·have hltI:¬(k:Int) < (bs.length:Int):=by omega
  have HF:=FIN.out (by omega)
  iterate 8 (all_goals try (first | with_reducible refine splitI (fun h=>?_) (fun h=>?_) | with_reducible refine splitBI (fun h=>?_) (fun h=>?_) | simp (config:={ maxSteps:=1000000 }) (disch:=first | assumption | omega | (simp; done) | fail) [Tryz.results44, *]))
  exact ⟨_,_,_,⟨rfl,rfl,rfl⟩,by omega,HG.out,HF.out⟩
theorem Word2_c (bs:List Nat) (hb:∀ b∈bs,b < 256) (I:Int) (most:Nat) (hI0:1≤I) (hI:I≤16) (hm:most≤12) (mm:Int) (hmm:mm=most) (g:Nat→Option Blk) (n:Nat) (bv:AV) (hv:RepB g n bs bv) :
  WC 0 Tryz.prog 44 [bv,.lit (.int .i64 I),.lit (.int .i64 mm)] ⟨.fn g,n⟩ fun r=>∃ sv g' n',r=.ret sv ⟨.fn g',n'⟩∧n≤n'∧(∀ b,b < n→g' b=g b)∧FreshC g' n n' (wordG bs I.toNat most) sv:=by
 obtain ⟨k,rfl⟩ : ∃ k:Nat,I=k:=⟨I.toNat,by omega⟩
 subst hmm
 exact Word_c bs hb k most (by omega) (by omega) hm g n bv hv
theorem Runs_c {st inp out:Nat} {part:Bool} {es:List Nat} {ev:AV} {ws:List (List Nat)} {wv:AV} (ia ib ic:Int) (g:Nat→Option Blk) (n:Nat) (hI:InG g n st inp out es ev ws wv) :
  WC 0 Tryz.prog 59 [.agg [.lit (.int .u8 st),.lit (.int .u8 inp),.lit (.int .u8 out),.lit (.bool part),ev,wv,.lit (.int .u8 ia),.lit (.int .u8 ib),.lit (.int .u8 ic)]] ⟨.fn g,n⟩ fun r=>∃ sv g' n' B,r=.ret (.agg [.lit (.int .i64 (machOf st inp out part es).inp),.lit (.int .i64 (machOf st inp out part es).out),sv]) ⟨.fn g',n'⟩∧n≤n'∧(∀ b,b < n→g' b=g b)∧LogC g' n n' B (runsM (machOf st inp out part es) ws) sv:=by
 have hlen:=@lenV Tryz.prog _ _ _ _ _ hI.sw.choose_spec.1
 have h1e:=hI.se.one
 have h1w:=hI.sw.choose_spec.1.one
 have hone:allOne [.lit (.int .u8 st),.lit (.int .u8 inp),.lit (.int .u8 out),.lit (.bool part),ev,wv,.lit (.int .u8 ia),.lit (.int .u8 ib),.lit (.int .u8 ic)]=true:=by simp [h1e,h1w]
 have HMO:=Hide.mk fun (gX:Nat→Option Blk) (n2:Nat) (hn:n≤n2) (hX:∀ b,b < n→gX b=g b)=>MOf_w st inp out part es ev gX n2 hI.b0 hI.b1 hI.b2 (hI.se.mono hn hX) hI.eb
 have HI:=Hide.mk hI
 have HM:=Hide.mk (machOf_ok st inp out part es)
 clear hI
 generalize machOf st inp out part es=M at *
 refine WC.enterP (noO_ok _ _) hG pl59 Tryz.func59 rfl (by decide +kernel) (Nat.le_of_ble_eq_true (by kernel_rfl)) ?_
 iterate 8 (all_goals try (first | with_reducible refine splitI (fun h=>?_) (fun h=>?_) | with_reducible refine splitBI (fun h=>?_) (fun h=>?_) | simp (config:={ maxSteps:=1000000 }) (disch:=first | assumption | omega | (simp; done) | fail) [Tryz.results59, *]))
 refine WC.mono (HMO.out _ _ (by omega) fun b (hb:b < n)=>by simp (disch:=omega) only [gput_lt]) ?_
 rintro _ ⟨ms,g1,n1,rfl,hn1,hg1,hfr⟩
 obtain ⟨rv,hms,h1r⟩:=hfr.rep.one
 subst hms
 have hone2:allOne [.lit (.int .i64 M.inp),.lit (.int .i64 M.out),rv]=true:=by simp [h1r]
 have HR:=Hide.mk hfr.rep
 have HG1:Hide (∀ b,b < n→g1 b=g b):=⟨fun b hb=>(hg1 b (by omega)).trans (by simp (disch:=omega) only [gput_lt])⟩
 have HX1:=Hide.mk hg1
 clear hg1 hfr HMO
 iterate 8 (all_goals try (first | with_reducible refine splitI (fun h=>?_) (fun h=>?_) | with_reducible refine splitBI (fun h=>?_) (fun h=>?_) | simp (config:={ maxSteps:=1000000 }) (disch:=first | assumption | omega | (simp; done) | fail) [Tryz.results59, *]))
 have hgn1:g1 n=some (.cells [.lit (.int .u8 st),.lit (.int .u8 inp),.lit (.int .u8 out),.lit (.bool part),ev,wv,.lit (.int .u8 ia),.lit (.int .u8 ib),.lit (.int .u8 ic)] true 0):=(HX1.out n (by omega)).trans (by simp (disch:=omega) only [gput_lt,gput_eq])
 have hgo1:g1 (n+1)=some (.cells [.lit (.int .i64 0),.lit (.int .i64 0),.lit (.slice none 0 0)] true 0):=(HX1.out (n+1) (by omega)).trans (by simp (disch:=omega) only [gput_lt,gput_eq])
 clear HX1
 refine LX.ind (fun m gf H'=>∃ (k n' : Nat) (gL:Nat→Option Blk) (B:Nat) (sv:AV),k≤ws.length∧k≤12∧m=12 - k∧H'=⟨.fn gL,n'⟩∧n1+1+1≤n'∧B < n'∧Hide (∀ b,b < n1→gL b=g1 b)∧gL n1=some (.cells [.lit (.int .i64 M.inp),.lit (.int .i64 M.out),rv] true 0) ∧
  gL (n1+1)=some (.cells [.lit (.int .i64 M.inp),.lit (.int .i64 M.out),sv] true 0)∧Hide (LogC gL (n1+1+1) n' B ((ws.take k).map (oneM M)) sv)∧gf 1=some (.ptr n 0)∧gf 2=some (.ptr (n+1) 0)∧gf 3=some (.ptr n1 0)∧gf 4=some (.ptr (n1+1) 0)∧gf 5=some (.lit (.int .i64 k))) (m0:=12) ?_ ?_
 ·refine ⟨0,_,_,0,_,Nat.zero_le _,Nat.zero_le _,rfl,rfl,Nat.le_refl _,by omega,⟨fun b hb=>?_⟩,?_,gput_eq,⟨[],.inl ⟨rfl,rfl,rfl⟩,.nil,fun v hv=>by cases hv⟩,by simp,by simp,by simp,by simp,by simp⟩
  ·exact (gput_lt (by omega)).trans (gput_lt hb)
  ·exact (gput_lt (by omega)).trans gput_eq
 rintro m gf H' ⟨k,n',gL,B,sv,hk,hk12,rfl,rfl,hn',hBn,HG,hgm,hgl,HL,w1,w2,w3,w4,w5⟩ ih
 have hgn:=(HG.out n (by omega)).trans hgn1
 have hgo:=(HG.out (n+1) (by omega)).trans hgo1
 have h1sv:=HL.out.one
 have hone3:allOne [.lit (.int .i64 M.inp),.lit (.int .i64 M.out),sv]=true:=by simp [h1sv]
 have FIN:Hide (¬(k < ws.length∧k < 12)→LogC gL (n1+1+1) n' B (runsM M ws) sv):=⟨fun h=>by
  have e:ws.take k=ws.take 12:=by
   by_cases h2:k < 12
   ·rw [List.take_of_length_le (by omega),List.take_of_length_le (by omega)]
   ·rw [show k=12 by omega]
  have h1:=HL.out
  rw [e] at h1
  exact h1⟩
 refine LX.roundP (noO_ok _ _) hG pl59 (by decide +kernel) ?_
 by_cases hlt:k < ws.length
 ·have hltI:(k:Int) < (ws.length:Int):=by omega
  by_cases hlm:k < 12
  ·have hlmI:(k:Int) < 12:=by omega
   obtain ⟨a2,off,q,ha2,hia,hcell,hrb⟩:=HI.out.sw.at hlt
   have hcell2:loadB (some (false,1)) (gL a2) (off+k)=some q:=(congrArg (fun z=>loadB (some (false,1)) z (off+k)) ((HG.out a2 (by omega)).trans (HG1.out a2 ha2))).trans hcell
   have hM:=HM.out
   have HWD:=Hide.mk (fun (gX:Nat→Option Blk) (n2:Nat) (hn2:n≤n2) (hX:∀ b,b < n→gX b=g b)=>Word2_c ws[k] (HI.out.wb _ (List.getElem_mem hlt)) M.inp 10 hM.1 hM.2.1 (by decide) 10 rfl gX n2 q (SliceV.mono hn2 hX hrb))
   have HTK:Hide ((ws.take (k+1)).map (oneM M)=(ws.take k).map (oneM M)++[oneM M ws[k]]):=⟨by rw [take_snoc hlt,List.map_append,List.map_singleton]⟩
   have HW:Hide (oneM M ws[k]=(wordG ws[k] M.inp.toNat 10,runM M 0 (wordG ws[k] M.inp.toNat 10))∧(wordG ws[k] M.inp.toNat 10).length≤10∧inW (wordG ws[k] M.inp.toNat 10) M.inp=true):=⟨rfl,wordG_len,wordG_in hM.1⟩
   clear hcell hrb hM
   generalize wordG ws[k] M.inp.toNat 10=w at *
   generalize oneM M ws[k]=t at *
   iterate 8 (all_goals try (first | with_reducible refine splitI (fun h=>?_) (fun h=>?_) | with_reducible refine splitBI (fun h=>?_) (fun h=>?_) | simp (config:={ maxSteps:=1000000 }) (disch:=first | assumption | omega | (simp; done) | fail) [Tryz.results59, *]))
   refine WC.mono (HWD.out _ _ (by omega) fun b (hb:b < n)=>(HG.out b (by omega)).trans (HG1.out b hb)) ?_
   rintro _ ⟨uv,g2,n2,rfl,hn2,hX2,hfw⟩
   have HX2:=Hide.mk hX2
   have HFW:=Hide.mk hfw
   have hgm2:=(hX2 n1 (by omega)).trans hgm
   have hgl2:=(hX2 (n1+1) (by omega)).trans hgl
   have hone4:oneC uv=true:=hfw.1.rep.one
   have hcu:cellsOf uv=[uv]:=hfw.1.rep.cell
   have HRU:=Hide.mk (fun (gX:Nat→Option Blk) (n3:Nat) (hn3:n2≤n3) (hX:∀ b,b < n2→gX b=g2 b)=>rRun_c HM.out w (by have:=HW.out.2.1; omega) HW.out.2.2 gX n3 [.lit (.int .i64 M.inp),.lit (.int .i64 M.out),rv] uv (HR.out.mono (by omega) fun b hb=>(hX b (by omega)).trans ((HX2.out b (by omega)).trans (HG.out b (by omega)))) (SliceV.mono hn3 hX HFW.out.1.rep))
   clear hX2 hfw HWD hcell2 hia
   iterate 8 (all_goals try (first | with_reducible refine splitI (fun h=>?_) (fun h=>?_) | with_reducible refine splitBI (fun h=>?_) (fun h=>?_) | simp (config:={ maxSteps:=1000000 }) (disch:=first | assumption | omega | (simp; done) | fail) [Tryz.results59, *]))
   refine WC.mono (HRU.out _ _ (by omega) fun b hb=>rfl) ?_
   rintro _ ⟨zv,g3,n3,rfl,hn3,hX3,hfz⟩
   have HX3:=Hide.mk hX3
   have HFZ:=Hide.mk hfz
   have hgm3:=(hX3 n1 (by omega)).trans hgm2
   have hgl3:=(hX3 (n1+1) (by omega)).trans hgl2
   have hone5:oneC zv=true:=hfz.1.rep.one
   have hcz:cellsOf zv=[zv]:=hfz.1.rep.cell
   have hone6:allOne [uv,zv]=true:=by simp [hone4,hone5]
   clear hX3 hfz HRU
   obtain ⟨cs,hgr,hrf,hcc⟩:=HL.out
   have HCC:=Hide.mk hcc
   clear hcc
   have HRF:=Hide.mk hrf
   have hcl:=hrf.1
   rw [List.length_map,List.length_take,Nat.min_eq_left hk] at hgr
   rw [List.length_map,List.length_take,Nat.min_eq_left hk] at hcl
   clear hrf
   have HNB:Hide (∀ a,n'≤a→a≠B):=⟨fun a h=>by omega⟩
   have HLOG:Hide (∀ gF:Nat→Option Blk,(∀ b,n1+1+1≤b→b < n3→b≠B→gF b=g3 b)→gF (n3+1)=some (.cells (cs++[uv,zv]) true 2)→LogC gF (n1+1+1) (n3+1+1) (n3+1) ((ws.take (k+1)).map (oneM M)) (.slq (n3+1) 0 (k+1) 0)):=⟨fun gF h1 h2=>by
    refine ⟨cs++[uv,zv],?_,?_,?_⟩
    ·rw [HTK.out,List.length_append,List.length_map,List.length_take,Nat.min_eq_left hk]
     exact .mk h2 (by omega) (by omega) (by rw [List.length_append,hcl]; simp; omega)
    ·rw [HTK.out,HW.out.1]
     exact (HRF.out.keep (Nat.le_refl _) (by omega) (.inl (by omega)) fun a h3 h4 h5=>(h1 a h3 (by omega) h5).trans ((HX3.out a (by omega)).trans (HX2.out a h4))).snoc (HFW.out.1.safe (by omega) (by omega) (.inl (by omega)) fun a h3 h4=>(h1 a (by omega) (by omega) (HNB.out a (by omega))).trans (HX3.out a h4)) (HFZ.out.1.safe (by omega) (by omega) (.inl (by omega)) fun a h3 h4=>h1 a (by omega) h4 (HNB.out a (by omega)))
    ·intro v hv
     rcases List.mem_append.1 hv with h | h
     ·exact HCC.out v h
     ·rcases List.mem_cons.1 h with rfl | h
      ·exact HFW.out.2
      ·rw [List.mem_singleton.1 h]; exact HFZ.out.2⟩
   rcases hgr with ⟨hk0,hc0,hs0⟩ | ⟨hk0,hs0,hB1,hB2,hB3,hB4⟩
   ·subst hs0
    have HZ:=Hide.mk (And.intro hk0 hc0)
    clear hk0 hc0
    iterate 8 (all_goals try (first | with_reducible refine splitI (fun h=>?_) (fun h=>?_) | with_reducible refine splitBI (fun h=>?_) (fun h=>?_) | simp (config:={ maxSteps:=1000000 }) (disch:=first | assumption | omega | (simp; done) | fail) [Tryz.results59, *]))
    refine ih.out (12 - (k+1)) _ _ (by omega) ⟨k+1,n3+1+1,_,n3+1,.slq (n3+1) 0 (k+1) 0,by omega,by omega,rfl,rfl,by omega,by omega,⟨fun b hb=>?_⟩,?_,?_,⟨HLOG.out _ (fun b h1 h2 h3=>?_) ?_⟩,by simp [*],by simp [*],by simp [*],by simp [*],by simp⟩
    ·simp (disch:=omega) only [gput_lt,gput_ne]; exact (HX3.out b (by omega)).trans ((HX2.out b (by omega)).trans (HG.out b hb))
    ·simp (disch:=omega) only [gput_lt,gput_ne]; exact hgm3
    ·rw [HZ.out.1]; simp (disch:=omega) only [gput_lt,gput_ne,gput_eq]
    ·simp (disch:=omega) only [gput_lt,gput_ne]
    ·rw [HZ.out.2]; simp (disch:=omega) only [gput_lt,gput_ne,gput_eq]; rfl
   ·subst hs0
    have hB5:g3 B=some (.cells cs true 2):=(HX3.out B (by omega)).trans ((HX2.out B hB2).trans hB3)
    clear hB3
    iterate 8 (all_goals try (first | with_reducible refine splitI (fun h=>?_) (fun h=>?_) | with_reducible refine splitBI (fun h=>?_) (fun h=>?_) | simp (config:={ maxSteps:=1000000 }) (disch:=first | assumption | omega | (simp; done) | fail) [Tryz.results59, *]))
    refine ih.out (12 - (k+1)) _ _ (by omega) ⟨k+1,n3+1+1,_,n3+1,.slq (n3+1) 0 (k+1) 0,by omega,by omega,rfl,rfl,by omega,by omega,⟨fun b hb=>?_⟩,?_,?_,⟨HLOG.out _ (fun b h1 h2 h3=>?_) ?_⟩,by simp [*],by simp [*],by simp [*],by simp [*],by simp⟩
    ·simp (disch:=omega) only [gput_lt,gput_ne]; exact (HX3.out b (by omega)).trans ((HX2.out b (by omega)).trans (HG.out b hb))
    ·simp (disch:=omega) only [gput_lt,gput_ne]; exact hgm3
    ·simp (disch:=omega) only [gput_lt,gput_ne,gput_eq]
    ·simp (disch:=omega) only [gput_lt,gput_ne]
    ·simp (disch:=omega) only [gput_lt,gput_ne,gput_eq]
  ·have hlmI:¬(k:Int) < 12:=by omega
   have HF:=Hide.mk (FIN.out (by omega))
   iterate 8 (all_goals try (first | with_reducible refine splitI (fun h=>?_) (fun h=>?_) | with_reducible refine splitBI (fun h=>?_) (fun h=>?_) | simp (config:={ maxSteps:=1000000 }) (disch:=first | assumption | omega | (simp; done) | fail) [Tryz.results59, *]))
   exact ⟨_,_,_,⟨rfl,rfl,rfl⟩,by omega,fun b hb=>(gput_lt (by omega)).trans ((HG.out b (by omega)).trans (HG1.out b hb)),B,HF.out.keep (by omega) (Nat.le_refl _) fun a h1 h2=>gput_ne (by omega)⟩
 ·have hltI:¬(k:Int) < (ws.length:Int):=by omega
  have HF:=Hide.mk (FIN.out (by omega))
  iterate 8 (all_goals try (first | with_reducible refine splitI (fun h=>?_) (fun h=>?_) | with_reducible refine splitBI (fun h=>?_) (fun h=>?_) | simp (config:={ maxSteps:=1000000 }) (disch:=first | assumption | omega | (simp; done) | fail) [Tryz.results59, *]))
  exact ⟨_,_,_,⟨rfl,rfl,rfl⟩,by omega,fun b hb=>(gput_lt (by omega)).trans ((HG.out b (by omega)).trans (HG1.out b hb)),B,HF.out.keep (by omega) (Nat.le_refl _) fun a h1 h2=>gput_ne (by omega)⟩
end Go.Ai
end
section
namespace Go.Ai
open Go.Proofs
set_option maxRecDepth 10000
set_option maxHeartbeats 40000000
end Go.Ai
end
