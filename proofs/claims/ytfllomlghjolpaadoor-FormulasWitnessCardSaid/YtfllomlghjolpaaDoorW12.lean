/- A small verified interpreter over names, its proofs, and what was proved with it. No condition. -/
import Derived.Test.YtfllomlghjolpaaDoorW06
import Derived.Test.YtfllomlghjolpaaDoorW11
set_option linter.all false
set_option linter.deprecated false
section
namespace Go.Ai
open Go.Proofs
set_option maxRecDepth 10000
set_option maxHeartbeats 40000000
theorem node_sl (g:Nat→Option Blk) (n op a off len cap:Nat) :
  WC 6 Tryd.prog 20 [.lit (.int .u8 op),.sl a off len cap] ⟨.fn g,n⟩ fun r=>r=.ret (.agg [.lit (.int .u8 op),.lit (.int .i64 0),.lit (.int .i64 0),.sl a off len cap]) ⟨.fn (gput g n (some (.cells [.lit (.int .u8 op),.lit (.int .i64 0),.lit (.int .i64 0),.sl a off len cap] true 0))),n+1⟩:=by
 have h1a:allOne [.lit (.int .u8 op),.lit (.int .i64 0),.lit (.int .i64 0),.sl a off len cap]=true:=by simp
 refine WC.enterP (noO_ok _ _) hG [] Tryd.func20 rfl (by decide +kernel) (Nat.le_of_ble_eq_true (by kernel_rfl)) ?_
 try simp (maxSteps:=999999) (disch:=first | assumption | omega | (simp; done) | fail) [Tryd.results20, *]
theorem node_nil (g:Nat→Option Blk) (n op:Nat) :
  WC 6 Tryd.prog 20 [.lit (.int .u8 op),.lit (.slice none 0 0)] ⟨.fn g,n⟩ fun r=>r=.ret (.agg [.lit (.int .u8 op),.lit (.int .i64 0),.lit (.int .i64 0),.lit (.slice none 0 0)]) ⟨.fn (gput g n (some (.cells [.lit (.int .u8 op),.lit (.int .i64 0),.lit (.int .i64 0),.lit (.slice none 0 0)] true 0))),n+1⟩:=by
 have h1a:allOne [.lit (.int .u8 op),.lit (.int .i64 0),.lit (.int .i64 0),.lit (.slice none 0 0)]=true:=by simp
 refine WC.enterP (noO_ok _ _) hG [] Tryd.func20 rfl (by decide +kernel) (Nat.le_of_ble_eq_true (by kernel_rfl)) ?_
 try simp (maxSteps:=999999) (disch:=first | assumption | omega | (simp; done) | fail) [Tryd.results20, *]
def u8Cells (l:List Nat) : List AV:=l.map fun (c:Nat)=>.lit (.int .u8 (c:Int))
theorem FOf_w (st inp out:Nat) (part:Bool) (es codes:List Nat) (ev cv:AV) (g:Nat→Option Blk) (n:Nat) (hst:st < 256) (hinp:inp < 256) (hout:out < 256) (hes:SliceA g n ev es.length (u16Cells es)) (heb:∀ c∈es,c < 65536)
  (hcs:SliceA g n cv codes.length (u8Cells codes)) (hcb:∀ c∈codes,c < 256) :
  WC 6 Tryd.prog 10 [.agg [.lit (.int .u8 st),.lit (.int .u8 inp),.lit (.int .u8 out),.lit (.bool part),ev,cv]] ⟨.fn g,n⟩ fun r=>∃ ms cs g' n',r=.ret (.tup [.agg ms,.agg cs]) ⟨.fn g',n'⟩∧n≤n'∧(∀ b,b < n→g' b=g b)∧RepM g' n' (machOf st inp out part es) ms∧repN g' n' (ofF st inp out codes) cs:=by
 have h1e:=hes.one
 have h1c:=hcs.one
 have h1a:allOne [.lit (.int .u8 st),.lit (.int .u8 inp),.lit (.int .u8 out),.lit (.bool part),ev,cv]=true:=by simp [h1e,h1c]
 have h1b:allOne [.lit (.int .u8 st),.lit (.int .u8 inp),.lit (.int .u8 out),.lit (.bool part),ev]=true:=by simp [h1e]
 have HE:=Hide.mk hes
 have HEB:=Hide.mk heb
 have HC:=Hide.mk hcs
 have HCB:=Hide.mk hcb
 have HF:Hide (ofF st inp out codes=topN (ofS (1+st % 6) (1+inp % 3) (1+out % 3) (codes.take 12) [])):=⟨rfl⟩
 have HMI:Hide ((machOf st inp out part es).inp=1+((inp % 3:Nat) : Int)):=⟨rfl⟩
 have HMO:Hide ((machOf st inp out part es).out=1+((out % 3:Nat) : Int)):=⟨rfl⟩
 have HMR:Hide ((machOf st inp out part es).rows.length=1+st % 6):=⟨by show ((List.range (1+st % 6)).map _).length=_; rw [List.length_map,List.length_range]⟩
 have HW:=Hide.mk (fun (g:Nat→Option Blk) (n:Nat) (h1:SliceA g n ev es.length (u16Cells es))=>MOf_w st inp out part es ev g n hst hinp hout h1 heb)
 have ha:=Nat.mod_lt st (show 0 < 6 by omega)
 have hb:=Nat.mod_lt inp (show 0 < 3 by omega)
 have hc:=Nat.mod_lt out (show 0 < 3 by omega)
 clear hes heb hcs hcb
 refine WC.enterP (noO_ok _ _) hG pl10 Tryd.func10 rfl (by decide +kernel) (Nat.le_of_ble_eq_true (by kernel_rfl)) ?_
 try simp (maxSteps:=999999) (disch:=first | assumption | omega | (simp; done) | fail) [Tryd.results10, *]
 refine WC.mono (HW.out _ _ (HE.out.mono (by omega) fun q hq=>(by simp (disch:=omega) only [gput_lt]))) ?_
 generalize machOf st inp out part es=M at *
 generalize ofF st inp out codes=F at *
 generalize st % 6=a at *
 generalize inp % 3=b at *
 generalize out % 3=c at *
 rintro _ ⟨ms,g1,n1,rfl,hn1,hg1,hfm⟩
 obtain ⟨rv,svs,hms,hrows,hrv⟩:=hfm.rep
 rw [HMI.out,HMO.out] at hms
 subst hms
 have HRM:=Hide.mk hfm
 have h1r:=hrv.one
 have h1m:allOne [.lit (.int .i64 (1+(b:Int))),.lit (.int .i64 (1+(c:Int))),rv]=true:=by simp [h1r]
 have hlR:∀ {H:Mem} {e' : Ev} {o:Oper} {c' : Call} {e:TypeId},lenS Tryd.prog H e' o c' (some (.slice e)) (some [rv])=.val (.lit (.int .i64 (1+(a:Int)))) H:=by
  intro H e' o c' e
  have e1:(1+(a:Int))=((M.rows.length:Nat) : Int):=by rw [HMR.out]; omega
  rw [e1]
  rcases hrv with ⟨h1,_,rfl | rfl⟩ | ⟨a2,off,_,⟨c2,rfl⟩ | ⟨c2,rfl⟩,_⟩
  ·rw [h1]; rfl
  ·rw [h1]; rfl
  ·rfl
  ·rfl
 have HG1:=Hide.mk hg1
 clear hg1 hfm hrows hrv HW
 try simp (maxSteps:=999999) (disch:=first | assumption | omega | (simp; done) | fail) [Tryd.results10, *]
 generalize hgA:gput g1 n1 (some (Blk.cells [.lit (.int .i64 (1+(b:Int))),.lit (.int .i64 (1+(c:Int))),rv] true 0))=gA
 have A0:Hide (∀ q,q < n→gA q=g q):=⟨fun q hq=>by rw [← hgA,gput_lt (by omega),HG1.out q (by omega)]; simp (disch:=omega) only [gput_lt]⟩
 have a0:gA n=some (.cells [.lit (.int .u8 st),.lit (.int .u8 inp),.lit (.int .u8 out),.lit (.bool part),ev,cv] true 0):=by rw [← hgA,gput_lt (by omega),HG1.out n (by omega)]; simp (disch:=omega) only [gput_lt,gput_eq]
 have a1:gA (n+1)=some (.cells [.lit (.int .i64 0),.lit (.int .i64 0),.lit (.slice none 0 0)] true 0):=by rw [← hgA,gput_lt (by omega),HG1.out (n+1) (by omega)]; simp (disch:=omega) only [gput_lt,gput_eq]
 have a2:gA (n+1+1)=some (.cells [.lit (.int .u8 0),.lit (.int .i64 0),.lit (.int .i64 0),.lit (.slice none 0 0)] true 0):=by rw [← hgA,gput_lt (by omega),HG1.out (n+1+1) (by omega)]; simp (disch:=omega) only [gput_eq]
 have a3:gA n1=some (.cells [.lit (.int .i64 (1+(b:Int))),.lit (.int .i64 (1+(c:Int))),rv] true 0):=by rw [← hgA]; exact gput_eq
 have HRA:Hide (FreshM gA (n+1+1+1) n1 M [.lit (.int .i64 (1+(b:Int))),.lit (.int .i64 (1+(c:Int))),rv]):=⟨HRM.out.keep (Nat.le_refl _) (Nat.le_refl _) fun q _ hq=>by rw [← hgA,gput_lt hq]⟩
 clear hgA HG1 HRM
 refine LX.ind (fun m gf H'=>∃ (i n' : Nat) (g' gk:Nat→Option Blk) (A:Nat) (sv:AV) (r:List AV) (ns:List NodeM),i≤codes.length∧i≤12∧m=12 - i∧H'=⟨.fn g',n'⟩∧n1+1≤n'∧(∀ q,q < n1+1→g' q=gA q)∧StkR g' gk (n1+1) n' A sv ns r∧ns.length≤i ∧
  gf 1=some (.ptr n 0)∧gf 2=some (.ptr (n+1) 0)∧gf 3=some (.ptr (n+1+1) 0)∧gf 4=some (.ptr n1 0)∧gf 5=some sv∧gf 6=some (.lit (.int .i64 i))∧ofS (1+a) (1+b) (1+c) ((codes.take 12).drop i) ns=ofS (1+a) (1+b) (1+c) (codes.take 12) []) (m0:=12) ?_ ?_
 ·exact ⟨0,_,_,fun _=>none,0,_,[],[],Nat.zero_le _,by omega,rfl,rfl,by omega,fun _ _=>rfl,.start,Nat.zero_le _,by simp,by simp,by simp,by simp,by simp,by simp,rfl⟩
 rintro m gf H' ⟨i,n',g',gk,A,sv,r,ns,hi,hi12,rfl,rfl,hn',hg',hS,hns,w1,w2,w3,w4,w5,w6,hof⟩ ih
 have HG:=Hide.mk hg'
 have HS:=Hide.mk hS
 have HOF:=Hide.mk hof
 clear hg' hS hof
 have f0:=(HG.out n (by omega)).trans a0
 have f1:=(HG.out (n+1) (by omega)).trans a1
 have f2:=(HG.out (n+1+1) (by omega)).trans a2
 have f3:=(HG.out n1 (by omega)).trans a3
 clear a0 a1 a2 a3
 have hlC:∀ {H:Mem} {e' : Ev} {o:Oper} {c' : Call} {e:TypeId},lenS Tryd.prog H e' o c' (some (.slice e)) (some [cv])=.val (.lit (.int .i64 codes.length)) H:=by
  intro H e' o c' e
  rcases HC.out with ⟨h1,rfl | rfl⟩ | ⟨a2,off,c2,_,rfl,_⟩
  ·rw [h1]; rfl
  ·rw [h1]; rfl
  ·rfl
 have hlS:∀ {H:Mem} {e' : Ev} {o:Oper} {c' : Call} {e:TypeId},lenS Tryd.prog H e' o c' (some (.slice e)) (some [sv])=.val (.lit (.int .i64 ns.length)) H:=by
  intro H e' o c' e
  rcases HS.out.grow with ⟨h1,_,rfl⟩ | ⟨_,rfl,_⟩
  ·rw [h1]; rfl
  ·rfl
 refine LX.roundP (noO_ok _ _) hG pl10 (by decide +kernel) ?_
 by_cases hlt:i < codes.length∧i < 12
 ·obtain ⟨hlt1,hlt2⟩:=hlt
  have hltI:(i:Int) < (codes.length:Int):=by omega
  have hltJ:(i:Int) < 12:=by omega
  rcases HC.out with ⟨h1,_⟩ | ⟨a2,off,c2,ha2,rfl,hrow⟩
  ·omega
  have hcode:=(hrow.mono ((HG.out a2 (by omega)).trans (A0.out a2 ha2))).one (k:=i) (s:=1) (by simp only [u8Cells,List.length_map]; exact hlt1)
  have hcell:(u8Cells codes)[i]'(by simp only [u8Cells,List.length_map]; exact hlt1)=.lit (.int .u8 (codes[i] : Int)):=by simp [u8Cells]
  rw [hcell] at hcode
  have hcd:=HCB.out codes[i] (List.getElem_mem hlt1)
  have htake:(codes.take 12).drop i=codes[i] :: (codes.take 12).drop (i+1):=by
   have h1:i < (codes.take 12).length:=by rw [List.length_take]; omega
   rw [List.drop_eq_getElem_cons h1]
   simp
  have HO2:Hide (ofS (1+a) (1+b) (1+c) ((codes.take 12).drop (i+1)) (stepF (1+a) (1+b) (1+c) codes[i] ns)=ofS (1+a) (1+b) (1+c) (codes.take 12) []):=⟨by
   have:=HOF.out
   rw [htake] at this
   exact this⟩
  generalize codes[i]=cd at hcode hcd HO2
  clear htake hcell hrow
  have htm:(cd:Int).tmod 15=((cd % 15:Nat) : Int):=(Int.ofNat_tmod cd 15).symm
  have htd:(cd:Int).tdiv 15=((cd / 15:Nat) : Int):=rfl
  have ho:cd % 15 < 15:=Nat.mod_lt _ (by omega)
  have hk255:cd / 15≤255:=by omega
  generalize hoe:cd % 15=o at htm ho
  generalize hke:cd / 15=k at htd hk255
  have hk3:(k:Int).tdiv 3=((k / 3:Nat) : Int):=rfl
  have hkN:(k:Int).tmod (1+(a:Int))=((k % (1+a) : Nat) : Int):=by rw [show (1+(a:Int))=((1+a:Nat) : Int) by omega]; exact (Int.ofNat_tmod k (1+a)).symm
  have hkI:(k:Int).tmod (1+(b:Int))=((k % (1+b) : Nat) : Int):=by rw [show (1+(b:Int))=((1+b:Nat) : Int) by omega]; exact (Int.ofNat_tmod k (1+b)).symm
  have hk30:k / 3≤255:=by omega
  generalize hk3e:k / 3=k3 at hk3 hk30
  have hkO:(k3:Int).tmod (1+(c:Int))=((k3 % (1+c) : Nat) : Int):=by rw [show (1+(c:Int))=((1+c:Nat) : Int) by omega]; exact (Int.ofNat_tmod k3 (1+c)).symm
  have HST:Hide (stepF (1+a) (1+b) (1+c) cd ns=stepG o ((k % (1+a) : Nat) : Int) ((k % (1+b) : Nat) : Int) ((k3 % (1+c) : Nat) : Int) ns):=⟨by rw [← hoe,← hk3e,← hke]; rfl⟩
  generalize k % (1+a)=kN at *
  generalize k % (1+b)=kI at *
  generalize k3 % (1+c)=kO at *
  clear hoe hke hk3e
  have hns12:ns.length≤11:=by omega
  by_cases c1:o=1
  ·subst c1
   replace HST:Hide (stepF (1+a) (1+b) (1+c) cd ns=(.mk 1 (kN:Nat) 0 []) :: ns):=⟨by rw [HST.out]; unfold stepG; simp⟩
   rcases HS.out.grow with hG0 | ⟨hpos,hsv,hA1,hA2,hA3,hA4⟩
   ·obtain ⟨hl0,hr0,hsv⟩:=hG0
    subst hsv
    have HJ:=Hide.mk (And.intro hl0 hr0)
    clear hl0 hr0
    try simp (maxSteps:=999999) (disch:=first | assumption | omega | (simp; done) | fail) [Tryd.results10, *]
    refine ih.out (12 - (i+1)) _ _ (by omega) ⟨i+1,n'+1+1,_,_,n'+1,(.slq (n'+1) 0 ((ns).length+1) 0),_,(.mk 1 (kN:Nat) 0 []) :: ns,by omega,by omega,rfl,rfl,by omega,fun q hq=>?_,HS.out.push (x:=(.mk 1 (kN:Nat) 0 [])) (X:=[.lit (.int .u8 1),.lit (.int .i64 (kN:Nat)),.lit (.int .i64 0),.lit (.slice none 0 0)]) (B:=n'+1) (by omega) (by omega) (by omega) (fun q h1 h2 h3=>?_) ?_ rfl (fun q b=>⟨by omega,_,rfl,.inl ⟨rfl,.inl rfl⟩⟩),(by (try simp only [List.length_cons,List.length_nil] at hns ⊢); omega),by simp [*],by simp [*],by simp [*],by simp [*],by rw [HJ.out.1]; simp [*],by simp,?_⟩
    ·simp (disch:=omega) only [gput_lt,gput_ne]
     exact HG.out q hq
    ·simp (disch:=omega) only [gput_lt,gput_ne]
    ·rw [HJ.out.2]; simp (disch:=omega) [gput_eq]
    ·have:=HO2.out
     rw [HST.out] at this
     exact this
   ·subst hsv
    try simp (maxSteps:=999999) (disch:=first | assumption | omega | (simp; done) | fail) [Tryd.results10, *]
    refine ih.out (12 - (i+1)) _ _ (by omega) ⟨i+1,n'+1+1,_,_,n'+1,(.slq (n'+1) 0 ((ns).length+1) 0),_,(.mk 1 (kN:Nat) 0 []) :: ns,by omega,by omega,rfl,rfl,by omega,fun q hq=>?_,HS.out.push (x:=(.mk 1 (kN:Nat) 0 [])) (X:=[.lit (.int .u8 1),.lit (.int .i64 (kN:Nat)),.lit (.int .i64 0),.lit (.slice none 0 0)]) (B:=n'+1) (by omega) (by omega) (by omega) (fun q h1 h2 h3=>?_) ?_ rfl (fun q b=>⟨by omega,_,rfl,.inl ⟨rfl,.inl rfl⟩⟩),(by (try simp only [List.length_cons,List.length_nil] at hns ⊢); omega),by simp [*],by simp [*],by simp [*],by simp [*],by simp [*],by simp,?_⟩
    ·simp (disch:=omega) only [gput_lt,gput_ne]
     exact HG.out q hq
    ·simp (disch:=omega) only [gput_lt,gput_ne]
    ·simp (disch:=omega) [gput_eq]
    ·have:=HO2.out
     rw [HST.out] at this
     exact this
  by_cases c2:o=2
  ·subst c2
   replace HST:Hide (stepF (1+a) (1+b) (1+c) cd ns=.mk 2 (kI:Nat) 0 [] :: ns):=⟨by rw [HST.out]; unfold stepG; simp⟩
   rcases HS.out.grow with hG0 | ⟨hpos,hsv,hA1,hA2,hA3,hA4⟩
   ·obtain ⟨hl0,hr0,hsv⟩:=hG0
    subst hsv
    have HJ:=Hide.mk (And.intro hl0 hr0)
    clear hl0 hr0
    try simp (maxSteps:=999999) (disch:=first | assumption | omega | (simp; done) | fail) [Tryd.results10, *]
    refine ih.out (12 - (i+1)) _ _ (by omega) ⟨i+1,n'+1+1,_,_,n'+1,(.slq (n'+1) 0 ((ns).length+1) 0),_,(.mk 2 (kI:Nat) 0 []) :: ns,by omega,by omega,rfl,rfl,by omega,fun q hq=>?_,HS.out.push (x:=(.mk 2 (kI:Nat) 0 [])) (X:=[.lit (.int .u8 2),.lit (.int .i64 (kI:Nat)),.lit (.int .i64 0),.lit (.slice none 0 0)]) (B:=n'+1) (by omega) (by omega) (by omega) (fun q h1 h2 h3=>?_) ?_ rfl (fun q b=>⟨by omega,_,rfl,.inl ⟨rfl,.inl rfl⟩⟩),(by (try simp only [List.length_cons,List.length_nil] at hns ⊢); omega),by simp [*],by simp [*],by simp [*],by simp [*],by rw [HJ.out.1]; simp [*],by simp,?_⟩
    ·simp (disch:=omega) only [gput_lt,gput_ne]
     exact HG.out q hq
    ·simp (disch:=omega) only [gput_lt,gput_ne]
    ·rw [HJ.out.2]; simp (disch:=omega) [gput_eq]
    ·have:=HO2.out
     rw [HST.out] at this
     exact this
   ·subst hsv
    try simp (maxSteps:=999999) (disch:=first | assumption | omega | (simp; done) | fail) [Tryd.results10, *]
    refine ih.out (12 - (i+1)) _ _ (by omega) ⟨i+1,n'+1+1,_,_,n'+1,(.slq (n'+1) 0 ((ns).length+1) 0),_,(.mk 2 (kI:Nat) 0 []) :: ns,by omega,by omega,rfl,rfl,by omega,fun q hq=>?_,HS.out.push (x:=(.mk 2 (kI:Nat) 0 [])) (X:=[.lit (.int .u8 2),.lit (.int .i64 (kI:Nat)),.lit (.int .i64 0),.lit (.slice none 0 0)]) (B:=n'+1) (by omega) (by omega) (by omega) (fun q h1 h2 h3=>?_) ?_ rfl (fun q b=>⟨by omega,_,rfl,.inl ⟨rfl,.inl rfl⟩⟩),(by (try simp only [List.length_cons,List.length_nil] at hns ⊢); omega),by simp [*],by simp [*],by simp [*],by simp [*],by simp [*],by simp,?_⟩
    ·simp (disch:=omega) only [gput_lt,gput_ne]
     exact HG.out q hq
    ·simp (disch:=omega) only [gput_lt,gput_ne]
    ·simp (disch:=omega) [gput_eq]
    ·have:=HO2.out
     rw [HST.out] at this
     exact this
  by_cases c3:o=3
  ·subst c3
   replace HST:Hide (stepF (1+a) (1+b) (1+c) cd ns=.mk 3 (kI:Nat) (kO:Nat) [] :: ns):=⟨by rw [HST.out]; unfold stepG; simp⟩
   rcases HS.out.grow with hG0 | ⟨hpos,hsv,hA1,hA2,hA3,hA4⟩
   ·obtain ⟨hl0,hr0,hsv⟩:=hG0
    subst hsv
    have HJ:=Hide.mk (And.intro hl0 hr0)
    clear hl0 hr0
    try simp (maxSteps:=999999) (disch:=first | assumption | omega | (simp; done) | fail) [Tryd.results10, *]
    refine ih.out (12 - (i+1)) _ _ (by omega) ⟨i+1,n'+1+1,_,_,n'+1,(.slq (n'+1) 0 ((ns).length+1) 0),_,(.mk 3 (kI:Nat) (kO:Nat) []) :: ns,by omega,by omega,rfl,rfl,by omega,fun q hq=>?_,HS.out.push (x:=(.mk 3 (kI:Nat) (kO:Nat) [])) (X:=[.lit (.int .u8 3),.lit (.int .i64 (kI:Nat)),.lit (.int .i64 (kO:Nat)),.lit (.slice none 0 0)]) (B:=n'+1) (by omega) (by omega) (by omega) (fun q h1 h2 h3=>?_) ?_ rfl (fun q b=>⟨by omega,_,rfl,.inl ⟨rfl,.inl rfl⟩⟩),(by (try simp only [List.length_cons,List.length_nil] at hns ⊢); omega),by simp [*],by simp [*],by simp [*],by simp [*],by rw [HJ.out.1]; simp [*],by simp,?_⟩
    ·simp (disch:=omega) only [gput_lt,gput_ne]
     exact HG.out q hq
    ·simp (disch:=omega) only [gput_lt,gput_ne]
    ·rw [HJ.out.2]; simp (disch:=omega) [gput_eq]
    ·have:=HO2.out
     rw [HST.out] at this
     exact this
   ·subst hsv
    try simp (maxSteps:=999999) (disch:=first | assumption | omega | (simp; done) | fail) [Tryd.results10, *]
    refine ih.out (12 - (i+1)) _ _ (by omega) ⟨i+1,n'+1+1,_,_,n'+1,(.slq (n'+1) 0 ((ns).length+1) 0),_,(.mk 3 (kI:Nat) (kO:Nat) []) :: ns,by omega,by omega,rfl,rfl,by omega,fun q hq=>?_,HS.out.push (x:=(.mk 3 (kI:Nat) (kO:Nat) [])) (X:=[.lit (.int .u8 3),.lit (.int .i64 (kI:Nat)),.lit (.int .i64 (kO:Nat)),.lit (.slice none 0 0)]) (B:=n'+1) (by omega) (by omega) (by omega) (fun q h1 h2 h3=>?_) ?_ rfl (fun q b=>⟨by omega,_,rfl,.inl ⟨rfl,.inl rfl⟩⟩),(by (try simp only [List.length_cons,List.length_nil] at hns ⊢); omega),by simp [*],by simp [*],by simp [*],by simp [*],by simp [*],by simp,?_⟩
    ·simp (disch:=omega) only [gput_lt,gput_ne]
     exact HG.out q hq
    ·simp (disch:=omega) only [gput_lt,gput_ne]
    ·simp (disch:=omega) [gput_eq]
    ·have:=HO2.out
     rw [HST.out] at this
     exact this
  by_cases c0:o=0
  ·subst c0
   replace HST:Hide (stepF (1+a) (1+b) (1+c) cd ns=.mk 0 0 0 [] :: ns):=⟨by rw [HST.out]; unfold stepG; simp⟩
   rcases HS.out.grow with hG0 | ⟨hpos,hsv,hA1,hA2,hA3,hA4⟩
   ·obtain ⟨hl0,hr0,hsv⟩:=hG0
    subst hsv
    have HJ:=Hide.mk (And.intro hl0 hr0)
    clear hl0 hr0
    try simp (maxSteps:=999999) (disch:=first | assumption | omega | (simp; done) | fail) [Tryd.results10, *]
    refine WC.mono (node_nil _ _ 0) ?_
    rintro _ rfl
    try simp (maxSteps:=999999) (disch:=first | assumption | omega | (simp; done) | fail) [Tryd.results10, *]
    refine ih.out (12 - (i+1)) _ _ (by omega) ⟨i+1,n'+1+1+1,_,_,n'+1+1,(.slq (n'+1+1) 0 ((ns).length+1) 0),_,(.mk 0 0 0 []) :: ns,by omega,by omega,rfl,rfl,by omega,fun q hq=>?_,HS.out.push (x:=(.mk 0 0 0 [])) (X:=[.lit (.int .u8 0),.lit (.int .i64 0),.lit (.int .i64 0),.lit (.slice none 0 0)]) (B:=n'+1+1) (by omega) (by omega) (by omega) (fun q h1 h2 h3=>?_) ?_ rfl (fun q b=>⟨by omega,_,rfl,.inl ⟨rfl,.inl rfl⟩⟩),(by (try simp only [List.length_cons,List.length_nil] at hns ⊢); omega),by simp [*],by simp [*],by simp [*],by simp [*],by rw [HJ.out.1]; simp [*],by simp,?_⟩
    ·simp (disch:=omega) only [gput_lt,gput_ne]
     exact HG.out q hq
    ·simp (disch:=omega) only [gput_lt,gput_ne]
    ·rw [HJ.out.2]; simp (disch:=omega) [gput_eq]
    ·have:=HO2.out
     rw [HST.out] at this
     exact this
   ·subst hsv
    try simp (maxSteps:=999999) (disch:=first | assumption | omega | (simp; done) | fail) [Tryd.results10, *]
    refine WC.mono (node_nil _ _ 0) ?_
    rintro _ rfl
    try simp (maxSteps:=999999) (disch:=first | assumption | omega | (simp; done) | fail) [Tryd.results10, *]
    refine ih.out (12 - (i+1)) _ _ (by omega) ⟨i+1,n'+1+1+1,_,_,n'+1+1,(.slq (n'+1+1) 0 ((ns).length+1) 0),_,(.mk 0 0 0 []) :: ns,by omega,by omega,rfl,rfl,by omega,fun q hq=>?_,HS.out.push (x:=(.mk 0 0 0 [])) (X:=[.lit (.int .u8 0),.lit (.int .i64 0),.lit (.int .i64 0),.lit (.slice none 0 0)]) (B:=n'+1+1) (by omega) (by omega) (by omega) (fun q h1 h2 h3=>?_) ?_ rfl (fun q b=>⟨by omega,_,rfl,.inl ⟨rfl,.inl rfl⟩⟩),(by (try simp only [List.length_cons,List.length_nil] at hns ⊢); omega),by simp [*],by simp [*],by simp [*],by simp [*],by simp [*],by simp,?_⟩
    ·simp (disch:=omega) only [gput_lt,gput_ne]
     exact HG.out q hq
    ·simp (disch:=omega) only [gput_lt,gput_ne]
    ·simp (disch:=omega) [gput_eq]
    ·have:=HO2.out
     rw [HST.out] at this
     exact this
  by_cases cb:o=5∨o=6∨o=10∨o=14
  ·rcases cb with rfl | rfl | rfl | rfl
   ·rcases ns with _ | ⟨y,_ | ⟨x,t⟩⟩
    ·replace HST:Hide (stepF (1+a) (1+b) (1+c) cd []=(.mk 1 (kN:Nat) 0 []) :: []):=⟨by rw [HST.out]; unfold stepG; simp⟩
     rcases HS.out.grow with hG0 | ⟨hpos,hsv,hA1,hA2,hA3,hA4⟩
     ·obtain ⟨hl0,hr0,hsv⟩:=hG0
      subst hsv
      have HJ:=Hide.mk (And.intro hl0 hr0)
      clear hl0 hr0
      try simp (maxSteps:=999999) (disch:=first | assumption | omega | (simp; done) | fail) [Tryd.results10, *]
      refine ih.out (12 - (i+1)) _ _ (by omega) ⟨i+1,n'+1+1,_,_,n'+1,(.slq (n'+1) 0 (([]).length+1) 0),_,(.mk 1 (kN:Nat) 0 []) :: [],by omega,by omega,rfl,rfl,by omega,fun q hq=>?_,HS.out.push (x:=(.mk 1 (kN:Nat) 0 [])) (X:=[.lit (.int .u8 1),.lit (.int .i64 (kN:Nat)),.lit (.int .i64 0),.lit (.slice none 0 0)]) (B:=n'+1) (by omega) (by omega) (by omega) (fun q h1 h2 h3=>?_) ?_ rfl (fun q b=>⟨by omega,_,rfl,.inl ⟨rfl,.inl rfl⟩⟩),(by (try simp only [List.length_cons,List.length_nil] at hns ⊢); omega),by simp [*],by simp [*],by simp [*],by simp [*],by rw [HJ.out.1]; simp [*],by simp,?_⟩
      ·simp (disch:=omega) only [gput_lt,gput_ne]
       exact HG.out q hq
      ·simp (disch:=omega) only [gput_lt,gput_ne]
      ·rw [HJ.out.2]; simp (disch:=omega) [gput_eq]
      ·have:=HO2.out
       rw [HST.out] at this
       exact this
     ·exact absurd hpos (by simp)
    ·replace HST:Hide (stepF (1+a) (1+b) (1+c) cd [y]=(.mk 1 (kN:Nat) 0 []) :: [y]):=⟨by rw [HST.out]; unfold stepG; simp⟩
     rcases HS.out.grow with hG0 | ⟨hpos,hsv,hA1,hA2,hA3,hA4⟩
     ·exact absurd hG0.1 (by simp)
     ·subst hsv
      try simp (maxSteps:=999999) (disch:=first | assumption | omega | (simp; done) | fail) [Tryd.results10, *]
      refine ih.out (12 - (i+1)) _ _ (by omega) ⟨i+1,n'+1+1,_,_,n'+1,(.slq (n'+1) 0 (([y]).length+1) 0),_,(.mk 1 (kN:Nat) 0 []) :: [y],by omega,by omega,rfl,rfl,by omega,fun q hq=>?_,HS.out.push (x:=(.mk 1 (kN:Nat) 0 [])) (X:=[.lit (.int .u8 1),.lit (.int .i64 (kN:Nat)),.lit (.int .i64 0),.lit (.slice none 0 0)]) (B:=n'+1) (by omega) (by omega) (by omega) (fun q h1 h2 h3=>?_) ?_ rfl (fun q b=>⟨by omega,_,rfl,.inl ⟨rfl,.inl rfl⟩⟩),(by (try simp only [List.length_cons,List.length_nil] at hns ⊢); omega),by simp [*],by simp [*],by simp [*],by simp [*],by simp [*],by simp,?_⟩
      ·simp (disch:=omega) only [gput_lt,gput_ne]
       exact HG.out q hq
      ·simp (disch:=omega) only [gput_lt,gput_ne]
      ·simp (disch:=omega) [gput_eq]
      ·have:=HO2.out
       rw [HST.out] at this
       exact this
    ·replace HST:Hide (stepF (1+a) (1+b) (1+c) cd (y :: x :: t)=.mk 5 0 0 [x,y] :: t):=⟨by rw [HST.out]; unfold stepG; simp⟩
     obtain ⟨r0,cx,cy,hsv,hA0,hA1,hA,hrl,htk,hdr,hdr2,hrep0,hx,hy⟩:=HS.out.last2
     subst hsv
     obtain ⟨op2,k2,k22,sv2,rfl,h2c⟩ : ∃ (op2:Nat) (k2 k22:Int) (sv2:AV),cx=[.lit (.int .u8 op2),.lit (.int .i64 k2),.lit (.int .i64 k22),sv2]∧oneC sv2=true:=by
      obtain ⟨k2,k22,sv2,e1,e2,_⟩:=repN_one hx
      exact ⟨_,k2,k22,sv2,e1,e2⟩
     obtain ⟨op3,k3',k33,sv3,rfl,h3c⟩ : ∃ (op2:Nat) (k2 k22:Int) (sv2:AV),cy=[.lit (.int .u8 op2),.lit (.int .i64 k2),.lit (.int .i64 k22),sv2]∧oneC sv2=true:=by
      obtain ⟨k2,k22,sv2,e1,e2,_⟩:=repN_one hy
      exact ⟨_,k2,k22,sv2,e1,e2⟩
     have h2a:allOne [.lit (.int .u8 op2),.lit (.int .i64 k2),.lit (.int .i64 k22),sv2]=true:=by simp [h2c]
     have h3a:allOne [.lit (.int .u8 op3),.lit (.int .i64 k3'),.lit (.int .i64 k33),sv3]=true:=by simp [h3c]
     have hlt14:t.length < 11:=by simp at hns12; omega
     have hpos:(1:Int) < (t.length:Int)+1+1:=by omega
     have hz2:(t.length:Int)+1+1 - 2=(t.length:Int):=by omega
     have HTK:=Hide.mk htk
     have HREP:=Hide.mk hrep0
     have HX:=Hide.mk hx
     have HY:=Hide.mk hy
     clear hlS htk hrep0 hx hy
     cases t with
     | nil =>
      have hr3:r=[.lit (.int .u8 op2),.lit (.int .i64 k2),.lit (.int .i64 k22),sv2,.lit (.int .u8 op3),.lit (.int .i64 k3'),.lit (.int .i64 k33),sv3]:=by
       have h7:=List.take_append_drop 4 r
       simp only [List.length_nil,Nat.zero_mul,List.drop_zero,Nat.zero_add,Nat.one_mul] at hdr hdr2
       rw [List.take_of_length_le (by rw [List.length_drop,hrl]; simp)] at hdr2
       rw [hdr,hdr2] at h7
       exact h7.symm
      subst hr3
      clear hdr hdr2 hz2
      try simp (maxSteps:=999999) (disch:=first | assumption | omega | (simp; done) | fail) [Tryd.results10, *]
      refine WC.mono (node_sl _ _ _ _ _ _ _) ?_
      rintro _ rfl
      try simp (maxSteps:=999999) (disch:=first | assumption | omega | (simp; done) | fail) [Tryd.results10, *]
      refine ih.out (12 - (i+1)) _ _ (by omega) ⟨i+1,n'+1+1+1+1+1,_,_,n'+1+1+1+1,(.slq (n'+1+1+1+1) 0 (([]).length+1) 0),_,(.mk 5 0 0 [x,y]) :: [],by omega,by omega,rfl,rfl,by omega,fun q hq=>?_,HS.out.pop (t:=[]) (S:=n'+1) (B:=n'+1+1+1+1) (r0:=[]) (subs:=[x,y]) (by omega) (by omega) (by omega) (by omega) (by omega) (by omega) (fun q h1 h2 h3=>?_) ?_ ?_ rfl (repL_append (l:=[x]) (m:=[y]) (repL_one HX.out) (repL_one HY.out)) rfl (by omega),(by (try simp only [List.length_cons,List.length_nil] at hns ⊢); omega),by simp [*],by simp [*],by simp [*],by simp [*],by simp [*],by simp,?_⟩
      ·simp (disch:=omega) only [gput_lt,gput_ne]
       exact HG.out q hq
      ·simp (disch:=omega) only [gput_lt,gput_ne]
      ·simp (disch:=omega) only [gput_lt,gput_ne,gput_eq]
       try rfl
      ·simp (disch:=omega) only [gput_lt,gput_ne,gput_eq]
       try rfl
      ·have:=HO2.out
       rw [HST.out] at this
       exact this
     | cons z t' =>
      simp only [List.length_cons] at hpos hlt14 hz2 hrl hdr hdr2
      have hz3:((t'.length:Int)+1+1+1 - 2)=(t'.length:Int)+1:=by omega
      have hpos2:(1:Int) < (t'.length:Int)+1+1+1:=by omega
      have htn:((t'.length:Int)+1+1).toNat=t'.length+1+1:=by omega
      have htl:(List.take ((t'.length+1) * 4) r).length=(t'.length+1) * 4:=by rw [List.length_take]; omega
      try simp (maxSteps:=999999) (disch:=first | assumption | omega | (simp; done) | fail) [Tryd.results10, *]
      refine WC.mono (node_sl _ _ _ _ _ _ _) ?_
      rintro _ rfl
      try simp (maxSteps:=999999) (disch:=first | assumption | omega | (simp; done) | fail) [Tryd.results10, *]
      refine ih.out (12 - (i+1)) _ _ (by omega) ⟨i+1,n'+1+1+1+1+1+1,_,_,n'+1+1+1+1+1,(.slq (n'+1+1+1+1+1) 0 (((z :: t')).length+1) 0),_,(.mk 5 0 0 [x,y]) :: (z :: t'),by omega,by omega,rfl,rfl,by omega,fun q hq=>?_,HS.out.pop (t:=(z :: t')) (S:=n'+1) (B:=n'+1+1+1+1+1) (r0:=r0) (subs:=[x,y]) (by omega) (by omega) (by omega) (by omega) (by omega) (by omega) (fun q h1 h2 h3=>?_) ?_ ?_ HREP.out (repL_append (l:=[x]) (m:=[y]) (repL_one HX.out) (repL_one HY.out)) rfl (by omega),(by (try simp only [List.length_cons,List.length_nil] at hns ⊢); omega),by simp [*],by simp [*],by simp [*],by simp [*],by simp [*],by simp,?_⟩
      ·simp (disch:=omega) only [gput_lt,gput_ne]
       exact HG.out q hq
      ·simp (disch:=omega) only [gput_lt,gput_ne]
      ·simp (disch:=omega) only [gput_lt,gput_ne,gput_eq]
       try rfl
      ·rw [← HTK.out]
       simp (disch:=omega) only [gput_lt,gput_ne,gput_eq]
       try rfl
      ·have:=HO2.out
       rw [HST.out] at this
       exact this
   ·rcases ns with _ | ⟨y,_ | ⟨x,t⟩⟩
    ·replace HST:Hide (stepF (1+a) (1+b) (1+c) cd []=(.mk 1 (kN:Nat) 0 []) :: []):=⟨by rw [HST.out]; unfold stepG; simp⟩
     rcases HS.out.grow with hG0 | ⟨hpos,hsv,hA1,hA2,hA3,hA4⟩
     ·obtain ⟨hl0,hr0,hsv⟩:=hG0
      subst hsv
      have HJ:=Hide.mk (And.intro hl0 hr0)
      clear hl0 hr0
      try simp (maxSteps:=999999) (disch:=first | assumption | omega | (simp; done) | fail) [Tryd.results10, *]
      refine ih.out (12 - (i+1)) _ _ (by omega) ⟨i+1,n'+1+1,_,_,n'+1,(.slq (n'+1) 0 (([]).length+1) 0),_,(.mk 1 (kN:Nat) 0 []) :: [],by omega,by omega,rfl,rfl,by omega,fun q hq=>?_,HS.out.push (x:=(.mk 1 (kN:Nat) 0 [])) (X:=[.lit (.int .u8 1),.lit (.int .i64 (kN:Nat)),.lit (.int .i64 0),.lit (.slice none 0 0)]) (B:=n'+1) (by omega) (by omega) (by omega) (fun q h1 h2 h3=>?_) ?_ rfl (fun q b=>⟨by omega,_,rfl,.inl ⟨rfl,.inl rfl⟩⟩),(by (try simp only [List.length_cons,List.length_nil] at hns ⊢); omega),by simp [*],by simp [*],by simp [*],by simp [*],by rw [HJ.out.1]; simp [*],by simp,?_⟩
      ·simp (disch:=omega) only [gput_lt,gput_ne]
       exact HG.out q hq
      ·simp (disch:=omega) only [gput_lt,gput_ne]
      ·rw [HJ.out.2]; simp (disch:=omega) [gput_eq]
      ·have:=HO2.out
       rw [HST.out] at this
       exact this
     ·exact absurd hpos (by simp)
    ·replace HST:Hide (stepF (1+a) (1+b) (1+c) cd [y]=(.mk 1 (kN:Nat) 0 []) :: [y]):=⟨by rw [HST.out]; unfold stepG; simp⟩
     rcases HS.out.grow with hG0 | ⟨hpos,hsv,hA1,hA2,hA3,hA4⟩
     ·exact absurd hG0.1 (by simp)
     ·subst hsv
      try simp (maxSteps:=999999) (disch:=first | assumption | omega | (simp; done) | fail) [Tryd.results10, *]
      refine ih.out (12 - (i+1)) _ _ (by omega) ⟨i+1,n'+1+1,_,_,n'+1,(.slq (n'+1) 0 (([y]).length+1) 0),_,(.mk 1 (kN:Nat) 0 []) :: [y],by omega,by omega,rfl,rfl,by omega,fun q hq=>?_,HS.out.push (x:=(.mk 1 (kN:Nat) 0 [])) (X:=[.lit (.int .u8 1),.lit (.int .i64 (kN:Nat)),.lit (.int .i64 0),.lit (.slice none 0 0)]) (B:=n'+1) (by omega) (by omega) (by omega) (fun q h1 h2 h3=>?_) ?_ rfl (fun q b=>⟨by omega,_,rfl,.inl ⟨rfl,.inl rfl⟩⟩),(by (try simp only [List.length_cons,List.length_nil] at hns ⊢); omega),by simp [*],by simp [*],by simp [*],by simp [*],by simp [*],by simp,?_⟩
      ·simp (disch:=omega) only [gput_lt,gput_ne]
       exact HG.out q hq
      ·simp (disch:=omega) only [gput_lt,gput_ne]
      ·simp (disch:=omega) [gput_eq]
      ·have:=HO2.out
       rw [HST.out] at this
       exact this
    ·replace HST:Hide (stepF (1+a) (1+b) (1+c) cd (y :: x :: t)=.mk 6 0 0 [x,y] :: t):=⟨by rw [HST.out]; unfold stepG; simp⟩
     obtain ⟨r0,cx,cy,hsv,hA0,hA1,hA,hrl,htk,hdr,hdr2,hrep0,hx,hy⟩:=HS.out.last2
     subst hsv
     obtain ⟨op2,k2,k22,sv2,rfl,h2c⟩ : ∃ (op2:Nat) (k2 k22:Int) (sv2:AV),cx=[.lit (.int .u8 op2),.lit (.int .i64 k2),.lit (.int .i64 k22),sv2]∧oneC sv2=true:=by
      obtain ⟨k2,k22,sv2,e1,e2,_⟩:=repN_one hx
      exact ⟨_,k2,k22,sv2,e1,e2⟩
     obtain ⟨op3,k3',k33,sv3,rfl,h3c⟩ : ∃ (op2:Nat) (k2 k22:Int) (sv2:AV),cy=[.lit (.int .u8 op2),.lit (.int .i64 k2),.lit (.int .i64 k22),sv2]∧oneC sv2=true:=by
      obtain ⟨k2,k22,sv2,e1,e2,_⟩:=repN_one hy
      exact ⟨_,k2,k22,sv2,e1,e2⟩
     have h2a:allOne [.lit (.int .u8 op2),.lit (.int .i64 k2),.lit (.int .i64 k22),sv2]=true:=by simp [h2c]
     have h3a:allOne [.lit (.int .u8 op3),.lit (.int .i64 k3'),.lit (.int .i64 k33),sv3]=true:=by simp [h3c]
     have hlt14:t.length < 11:=by simp at hns12; omega
     have hpos:(1:Int) < (t.length:Int)+1+1:=by omega
     have hz2:(t.length:Int)+1+1 - 2=(t.length:Int):=by omega
     have HTK:=Hide.mk htk
     have HREP:=Hide.mk hrep0
     have HX:=Hide.mk hx
     have HY:=Hide.mk hy
     clear hlS htk hrep0 hx hy
     cases t with
     | nil =>
      have hr3:r=[.lit (.int .u8 op2),.lit (.int .i64 k2),.lit (.int .i64 k22),sv2,.lit (.int .u8 op3),.lit (.int .i64 k3'),.lit (.int .i64 k33),sv3]:=by
       have h7:=List.take_append_drop 4 r
       simp only [List.length_nil,Nat.zero_mul,List.drop_zero,Nat.zero_add,Nat.one_mul] at hdr hdr2
       rw [List.take_of_length_le (by rw [List.length_drop,hrl]; simp)] at hdr2
       rw [hdr,hdr2] at h7
       exact h7.symm
      subst hr3
      clear hdr hdr2 hz2
      try simp (maxSteps:=999999) (disch:=first | assumption | omega | (simp; done) | fail) [Tryd.results10, *]
      refine WC.mono (node_sl _ _ _ _ _ _ _) ?_
      rintro _ rfl
      try simp (maxSteps:=999999) (disch:=first | assumption | omega | (simp; done) | fail) [Tryd.results10, *]
      refine ih.out (12 - (i+1)) _ _ (by omega) ⟨i+1,n'+1+1+1+1+1,_,_,n'+1+1+1+1,(.slq (n'+1+1+1+1) 0 (([]).length+1) 0),_,(.mk 6 0 0 [x,y]) :: [],by omega,by omega,rfl,rfl,by omega,fun q hq=>?_,HS.out.pop (t:=[]) (S:=n'+1) (B:=n'+1+1+1+1) (r0:=[]) (subs:=[x,y]) (by omega) (by omega) (by omega) (by omega) (by omega) (by omega) (fun q h1 h2 h3=>?_) ?_ ?_ rfl (repL_append (l:=[x]) (m:=[y]) (repL_one HX.out) (repL_one HY.out)) rfl (by omega),(by (try simp only [List.length_cons,List.length_nil] at hns ⊢); omega),by simp [*],by simp [*],by simp [*],by simp [*],by simp [*],by simp,?_⟩
      ·simp (disch:=omega) only [gput_lt,gput_ne]
       exact HG.out q hq
      ·simp (disch:=omega) only [gput_lt,gput_ne]
      ·simp (disch:=omega) only [gput_lt,gput_ne,gput_eq]
       try rfl
      ·simp (disch:=omega) only [gput_lt,gput_ne,gput_eq]
       try rfl
      ·have:=HO2.out
       rw [HST.out] at this
       exact this
     | cons z t' =>
      simp only [List.length_cons] at hpos hlt14 hz2 hrl hdr hdr2
      have hz3:((t'.length:Int)+1+1+1 - 2)=(t'.length:Int)+1:=by omega
      have hpos2:(1:Int) < (t'.length:Int)+1+1+1:=by omega
      have htn:((t'.length:Int)+1+1).toNat=t'.length+1+1:=by omega
      have htl:(List.take ((t'.length+1) * 4) r).length=(t'.length+1) * 4:=by rw [List.length_take]; omega
      try simp (maxSteps:=999999) (disch:=first | assumption | omega | (simp; done) | fail) [Tryd.results10, *]
      refine WC.mono (node_sl _ _ _ _ _ _ _) ?_
      rintro _ rfl
      try simp (maxSteps:=999999) (disch:=first | assumption | omega | (simp; done) | fail) [Tryd.results10, *]
      refine ih.out (12 - (i+1)) _ _ (by omega) ⟨i+1,n'+1+1+1+1+1+1,_,_,n'+1+1+1+1+1,(.slq (n'+1+1+1+1+1) 0 (((z :: t')).length+1) 0),_,(.mk 6 0 0 [x,y]) :: (z :: t'),by omega,by omega,rfl,rfl,by omega,fun q hq=>?_,HS.out.pop (t:=(z :: t')) (S:=n'+1) (B:=n'+1+1+1+1+1) (r0:=r0) (subs:=[x,y]) (by omega) (by omega) (by omega) (by omega) (by omega) (by omega) (fun q h1 h2 h3=>?_) ?_ ?_ HREP.out (repL_append (l:=[x]) (m:=[y]) (repL_one HX.out) (repL_one HY.out)) rfl (by omega),(by (try simp only [List.length_cons,List.length_nil] at hns ⊢); omega),by simp [*],by simp [*],by simp [*],by simp [*],by simp [*],by simp,?_⟩
      ·simp (disch:=omega) only [gput_lt,gput_ne]
       exact HG.out q hq
      ·simp (disch:=omega) only [gput_lt,gput_ne]
      ·simp (disch:=omega) only [gput_lt,gput_ne,gput_eq]
       try rfl
      ·rw [← HTK.out]
       simp (disch:=omega) only [gput_lt,gput_ne,gput_eq]
       try rfl
      ·have:=HO2.out
       rw [HST.out] at this
       exact this
   ·rcases ns with _ | ⟨y,_ | ⟨x,t⟩⟩
    ·replace HST:Hide (stepF (1+a) (1+b) (1+c) cd []=(.mk 1 (kN:Nat) 0 []) :: []):=⟨by rw [HST.out]; unfold stepG; simp⟩
     rcases HS.out.grow with hG0 | ⟨hpos,hsv,hA1,hA2,hA3,hA4⟩
     ·obtain ⟨hl0,hr0,hsv⟩:=hG0
      subst hsv
      have HJ:=Hide.mk (And.intro hl0 hr0)
      clear hl0 hr0
      try simp (maxSteps:=999999) (disch:=first | assumption | omega | (simp; done) | fail) [Tryd.results10, *]
      refine ih.out (12 - (i+1)) _ _ (by omega) ⟨i+1,n'+1+1,_,_,n'+1,(.slq (n'+1) 0 (([]).length+1) 0),_,(.mk 1 (kN:Nat) 0 []) :: [],by omega,by omega,rfl,rfl,by omega,fun q hq=>?_,HS.out.push (x:=(.mk 1 (kN:Nat) 0 [])) (X:=[.lit (.int .u8 1),.lit (.int .i64 (kN:Nat)),.lit (.int .i64 0),.lit (.slice none 0 0)]) (B:=n'+1) (by omega) (by omega) (by omega) (fun q h1 h2 h3=>?_) ?_ rfl (fun q b=>⟨by omega,_,rfl,.inl ⟨rfl,.inl rfl⟩⟩),(by (try simp only [List.length_cons,List.length_nil] at hns ⊢); omega),by simp [*],by simp [*],by simp [*],by simp [*],by rw [HJ.out.1]; simp [*],by simp,?_⟩
      ·simp (disch:=omega) only [gput_lt,gput_ne]
       exact HG.out q hq
      ·simp (disch:=omega) only [gput_lt,gput_ne]
      ·rw [HJ.out.2]; simp (disch:=omega) [gput_eq]
      ·have:=HO2.out
       rw [HST.out] at this
       exact this
     ·exact absurd hpos (by simp)
    ·replace HST:Hide (stepF (1+a) (1+b) (1+c) cd [y]=(.mk 1 (kN:Nat) 0 []) :: [y]):=⟨by rw [HST.out]; unfold stepG; simp⟩
     rcases HS.out.grow with hG0 | ⟨hpos,hsv,hA1,hA2,hA3,hA4⟩
     ·exact absurd hG0.1 (by simp)
     ·subst hsv
      try simp (maxSteps:=999999) (disch:=first | assumption | omega | (simp; done) | fail) [Tryd.results10, *]
      refine ih.out (12 - (i+1)) _ _ (by omega) ⟨i+1,n'+1+1,_,_,n'+1,(.slq (n'+1) 0 (([y]).length+1) 0),_,(.mk 1 (kN:Nat) 0 []) :: [y],by omega,by omega,rfl,rfl,by omega,fun q hq=>?_,HS.out.push (x:=(.mk 1 (kN:Nat) 0 [])) (X:=[.lit (.int .u8 1),.lit (.int .i64 (kN:Nat)),.lit (.int .i64 0),.lit (.slice none 0 0)]) (B:=n'+1) (by omega) (by omega) (by omega) (fun q h1 h2 h3=>?_) ?_ rfl (fun q b=>⟨by omega,_,rfl,.inl ⟨rfl,.inl rfl⟩⟩),(by (try simp only [List.length_cons,List.length_nil] at hns ⊢); omega),by simp [*],by simp [*],by simp [*],by simp [*],by simp [*],by simp,?_⟩
      ·simp (disch:=omega) only [gput_lt,gput_ne]
       exact HG.out q hq
      ·simp (disch:=omega) only [gput_lt,gput_ne]
      ·simp (disch:=omega) [gput_eq]
      ·have:=HO2.out
       rw [HST.out] at this
       exact this
    ·replace HST:Hide (stepF (1+a) (1+b) (1+c) cd (y :: x :: t)=.mk 10 0 0 [x,y] :: t):=⟨by rw [HST.out]; unfold stepG; simp⟩
     obtain ⟨r0,cx,cy,hsv,hA0,hA1,hA,hrl,htk,hdr,hdr2,hrep0,hx,hy⟩:=HS.out.last2
     subst hsv
     obtain ⟨op2,k2,k22,sv2,rfl,h2c⟩ : ∃ (op2:Nat) (k2 k22:Int) (sv2:AV),cx=[.lit (.int .u8 op2),.lit (.int .i64 k2),.lit (.int .i64 k22),sv2]∧oneC sv2=true:=by
      obtain ⟨k2,k22,sv2,e1,e2,_⟩:=repN_one hx
      exact ⟨_,k2,k22,sv2,e1,e2⟩
     obtain ⟨op3,k3',k33,sv3,rfl,h3c⟩ : ∃ (op2:Nat) (k2 k22:Int) (sv2:AV),cy=[.lit (.int .u8 op2),.lit (.int .i64 k2),.lit (.int .i64 k22),sv2]∧oneC sv2=true:=by
      obtain ⟨k2,k22,sv2,e1,e2,_⟩:=repN_one hy
      exact ⟨_,k2,k22,sv2,e1,e2⟩
     have h2a:allOne [.lit (.int .u8 op2),.lit (.int .i64 k2),.lit (.int .i64 k22),sv2]=true:=by simp [h2c]
     have h3a:allOne [.lit (.int .u8 op3),.lit (.int .i64 k3'),.lit (.int .i64 k33),sv3]=true:=by simp [h3c]
     have hlt14:t.length < 11:=by simp at hns12; omega
     have hpos:(1:Int) < (t.length:Int)+1+1:=by omega
     have hz2:(t.length:Int)+1+1 - 2=(t.length:Int):=by omega
     have HTK:=Hide.mk htk
     have HREP:=Hide.mk hrep0
     have HX:=Hide.mk hx
     have HY:=Hide.mk hy
     clear hlS htk hrep0 hx hy
     cases t with
     | nil =>
      have hr3:r=[.lit (.int .u8 op2),.lit (.int .i64 k2),.lit (.int .i64 k22),sv2,.lit (.int .u8 op3),.lit (.int .i64 k3'),.lit (.int .i64 k33),sv3]:=by
       have h7:=List.take_append_drop 4 r
       simp only [List.length_nil,Nat.zero_mul,List.drop_zero,Nat.zero_add,Nat.one_mul] at hdr hdr2
       rw [List.take_of_length_le (by rw [List.length_drop,hrl]; simp)] at hdr2
       rw [hdr,hdr2] at h7
       exact h7.symm
      subst hr3
      clear hdr hdr2 hz2
      try simp (maxSteps:=999999) (disch:=first | assumption | omega | (simp; done) | fail) [Tryd.results10, *]
      refine WC.mono (node_sl _ _ _ _ _ _ _) ?_
      rintro _ rfl
      try simp (maxSteps:=999999) (disch:=first | assumption | omega | (simp; done) | fail) [Tryd.results10, *]
      refine ih.out (12 - (i+1)) _ _ (by omega) ⟨i+1,n'+1+1+1+1+1,_,_,n'+1+1+1+1,(.slq (n'+1+1+1+1) 0 (([]).length+1) 0),_,(.mk 10 0 0 [x,y]) :: [],by omega,by omega,rfl,rfl,by omega,fun q hq=>?_,HS.out.pop (t:=[]) (S:=n'+1) (B:=n'+1+1+1+1) (r0:=[]) (subs:=[x,y]) (by omega) (by omega) (by omega) (by omega) (by omega) (by omega) (fun q h1 h2 h3=>?_) ?_ ?_ rfl (repL_append (l:=[x]) (m:=[y]) (repL_one HX.out) (repL_one HY.out)) rfl (by omega),(by (try simp only [List.length_cons,List.length_nil] at hns ⊢); omega),by simp [*],by simp [*],by simp [*],by simp [*],by simp [*],by simp,?_⟩
      ·simp (disch:=omega) only [gput_lt,gput_ne]
       exact HG.out q hq
      ·simp (disch:=omega) only [gput_lt,gput_ne]
      ·simp (disch:=omega) only [gput_lt,gput_ne,gput_eq]
       try rfl
      ·simp (disch:=omega) only [gput_lt,gput_ne,gput_eq]
       try rfl
      ·have:=HO2.out
       rw [HST.out] at this
       exact this
     | cons z t' =>
      simp only [List.length_cons] at hpos hlt14 hz2 hrl hdr hdr2
      have hz3:((t'.length:Int)+1+1+1 - 2)=(t'.length:Int)+1:=by omega
      have hpos2:(1:Int) < (t'.length:Int)+1+1+1:=by omega
      have htn:((t'.length:Int)+1+1).toNat=t'.length+1+1:=by omega
      have htl:(List.take ((t'.length+1) * 4) r).length=(t'.length+1) * 4:=by rw [List.length_take]; omega
      try simp (maxSteps:=999999) (disch:=first | assumption | omega | (simp; done) | fail) [Tryd.results10, *]
      refine WC.mono (node_sl _ _ _ _ _ _ _) ?_
      rintro _ rfl
      try simp (maxSteps:=999999) (disch:=first | assumption | omega | (simp; done) | fail) [Tryd.results10, *]
      refine ih.out (12 - (i+1)) _ _ (by omega) ⟨i+1,n'+1+1+1+1+1+1,_,_,n'+1+1+1+1+1,(.slq (n'+1+1+1+1+1) 0 (((z :: t')).length+1) 0),_,(.mk 10 0 0 [x,y]) :: (z :: t'),by omega,by omega,rfl,rfl,by omega,fun q hq=>?_,HS.out.pop (t:=(z :: t')) (S:=n'+1) (B:=n'+1+1+1+1+1) (r0:=r0) (subs:=[x,y]) (by omega) (by omega) (by omega) (by omega) (by omega) (by omega) (fun q h1 h2 h3=>?_) ?_ ?_ HREP.out (repL_append (l:=[x]) (m:=[y]) (repL_one HX.out) (repL_one HY.out)) rfl (by omega),(by (try simp only [List.length_cons,List.length_nil] at hns ⊢); omega),by simp [*],by simp [*],by simp [*],by simp [*],by simp [*],by simp,?_⟩
      ·simp (disch:=omega) only [gput_lt,gput_ne]
       exact HG.out q hq
      ·simp (disch:=omega) only [gput_lt,gput_ne]
      ·simp (disch:=omega) only [gput_lt,gput_ne,gput_eq]
       try rfl
      ·rw [← HTK.out]
       simp (disch:=omega) only [gput_lt,gput_ne,gput_eq]
       try rfl
      ·have:=HO2.out
       rw [HST.out] at this
       exact this
   ·rcases ns with _ | ⟨y,_ | ⟨x,t⟩⟩
    ·replace HST:Hide (stepF (1+a) (1+b) (1+c) cd []=(.mk 1 (kN:Nat) 0 []) :: []):=⟨by rw [HST.out]; unfold stepG; simp⟩
     rcases HS.out.grow with hG0 | ⟨hpos,hsv,hA1,hA2,hA3,hA4⟩
     ·obtain ⟨hl0,hr0,hsv⟩:=hG0
      subst hsv
      have HJ:=Hide.mk (And.intro hl0 hr0)
      clear hl0 hr0
      try simp (maxSteps:=999999) (disch:=first | assumption | omega | (simp; done) | fail) [Tryd.results10, *]
      refine ih.out (12 - (i+1)) _ _ (by omega) ⟨i+1,n'+1+1,_,_,n'+1,(.slq (n'+1) 0 (([]).length+1) 0),_,(.mk 1 (kN:Nat) 0 []) :: [],by omega,by omega,rfl,rfl,by omega,fun q hq=>?_,HS.out.push (x:=(.mk 1 (kN:Nat) 0 [])) (X:=[.lit (.int .u8 1),.lit (.int .i64 (kN:Nat)),.lit (.int .i64 0),.lit (.slice none 0 0)]) (B:=n'+1) (by omega) (by omega) (by omega) (fun q h1 h2 h3=>?_) ?_ rfl (fun q b=>⟨by omega,_,rfl,.inl ⟨rfl,.inl rfl⟩⟩),(by (try simp only [List.length_cons,List.length_nil] at hns ⊢); omega),by simp [*],by simp [*],by simp [*],by simp [*],by rw [HJ.out.1]; simp [*],by simp,?_⟩
      ·simp (disch:=omega) only [gput_lt,gput_ne]
       exact HG.out q hq
      ·simp (disch:=omega) only [gput_lt,gput_ne]
      ·rw [HJ.out.2]; simp (disch:=omega) [gput_eq]
      ·have:=HO2.out
       rw [HST.out] at this
       exact this
     ·exact absurd hpos (by simp)
    ·replace HST:Hide (stepF (1+a) (1+b) (1+c) cd [y]=(.mk 1 (kN:Nat) 0 []) :: [y]):=⟨by rw [HST.out]; unfold stepG; simp⟩
     rcases HS.out.grow with hG0 | ⟨hpos,hsv,hA1,hA2,hA3,hA4⟩
     ·exact absurd hG0.1 (by simp)
     ·subst hsv
      try simp (maxSteps:=999999) (disch:=first | assumption | omega | (simp; done) | fail) [Tryd.results10, *]
      refine ih.out (12 - (i+1)) _ _ (by omega) ⟨i+1,n'+1+1,_,_,n'+1,(.slq (n'+1) 0 (([y]).length+1) 0),_,(.mk 1 (kN:Nat) 0 []) :: [y],by omega,by omega,rfl,rfl,by omega,fun q hq=>?_,HS.out.push (x:=(.mk 1 (kN:Nat) 0 [])) (X:=[.lit (.int .u8 1),.lit (.int .i64 (kN:Nat)),.lit (.int .i64 0),.lit (.slice none 0 0)]) (B:=n'+1) (by omega) (by omega) (by omega) (fun q h1 h2 h3=>?_) ?_ rfl (fun q b=>⟨by omega,_,rfl,.inl ⟨rfl,.inl rfl⟩⟩),(by (try simp only [List.length_cons,List.length_nil] at hns ⊢); omega),by simp [*],by simp [*],by simp [*],by simp [*],by simp [*],by simp,?_⟩
      ·simp (disch:=omega) only [gput_lt,gput_ne]
       exact HG.out q hq
      ·simp (disch:=omega) only [gput_lt,gput_ne]
      ·simp (disch:=omega) [gput_eq]
      ·have:=HO2.out
       rw [HST.out] at this
       exact this
    ·replace HST:Hide (stepF (1+a) (1+b) (1+c) cd (y :: x :: t)=.mk 14 0 0 [x,y] :: t):=⟨by rw [HST.out]; unfold stepG; simp⟩
     obtain ⟨r0,cx,cy,hsv,hA0,hA1,hA,hrl,htk,hdr,hdr2,hrep0,hx,hy⟩:=HS.out.last2
     subst hsv
     obtain ⟨op2,k2,k22,sv2,rfl,h2c⟩ : ∃ (op2:Nat) (k2 k22:Int) (sv2:AV),cx=[.lit (.int .u8 op2),.lit (.int .i64 k2),.lit (.int .i64 k22),sv2]∧oneC sv2=true:=by
      obtain ⟨k2,k22,sv2,e1,e2,_⟩:=repN_one hx
      exact ⟨_,k2,k22,sv2,e1,e2⟩
     obtain ⟨op3,k3',k33,sv3,rfl,h3c⟩ : ∃ (op2:Nat) (k2 k22:Int) (sv2:AV),cy=[.lit (.int .u8 op2),.lit (.int .i64 k2),.lit (.int .i64 k22),sv2]∧oneC sv2=true:=by
      obtain ⟨k2,k22,sv2,e1,e2,_⟩:=repN_one hy
      exact ⟨_,k2,k22,sv2,e1,e2⟩
     have h2a:allOne [.lit (.int .u8 op2),.lit (.int .i64 k2),.lit (.int .i64 k22),sv2]=true:=by simp [h2c]
     have h3a:allOne [.lit (.int .u8 op3),.lit (.int .i64 k3'),.lit (.int .i64 k33),sv3]=true:=by simp [h3c]
     have hlt14:t.length < 11:=by simp at hns12; omega
     have hpos:(1:Int) < (t.length:Int)+1+1:=by omega
     have hz2:(t.length:Int)+1+1 - 2=(t.length:Int):=by omega
     have HTK:=Hide.mk htk
     have HREP:=Hide.mk hrep0
     have HX:=Hide.mk hx
     have HY:=Hide.mk hy
     clear hlS htk hrep0 hx hy
     cases t with
     | nil =>
      have hr3:r=[.lit (.int .u8 op2),.lit (.int .i64 k2),.lit (.int .i64 k22),sv2,.lit (.int .u8 op3),.lit (.int .i64 k3'),.lit (.int .i64 k33),sv3]:=by
       have h7:=List.take_append_drop 4 r
       simp only [List.length_nil,Nat.zero_mul,List.drop_zero,Nat.zero_add,Nat.one_mul] at hdr hdr2
       rw [List.take_of_length_le (by rw [List.length_drop,hrl]; simp)] at hdr2
       rw [hdr,hdr2] at h7
       exact h7.symm
      subst hr3
      clear hdr hdr2 hz2
      try simp (maxSteps:=999999) (disch:=first | assumption | omega | (simp; done) | fail) [Tryd.results10, *]
      refine WC.mono (node_sl _ _ _ _ _ _ _) ?_
      rintro _ rfl
      try simp (maxSteps:=999999) (disch:=first | assumption | omega | (simp; done) | fail) [Tryd.results10, *]
      refine ih.out (12 - (i+1)) _ _ (by omega) ⟨i+1,n'+1+1+1+1+1,_,_,n'+1+1+1+1,(.slq (n'+1+1+1+1) 0 (([]).length+1) 0),_,(.mk 14 0 0 [x,y]) :: [],by omega,by omega,rfl,rfl,by omega,fun q hq=>?_,HS.out.pop (t:=[]) (S:=n'+1) (B:=n'+1+1+1+1) (r0:=[]) (subs:=[x,y]) (by omega) (by omega) (by omega) (by omega) (by omega) (by omega) (fun q h1 h2 h3=>?_) ?_ ?_ rfl (repL_append (l:=[x]) (m:=[y]) (repL_one HX.out) (repL_one HY.out)) rfl (by omega),(by (try simp only [List.length_cons,List.length_nil] at hns ⊢); omega),by simp [*],by simp [*],by simp [*],by simp [*],by simp [*],by simp,?_⟩
      ·simp (disch:=omega) only [gput_lt,gput_ne]
       exact HG.out q hq
      ·simp (disch:=omega) only [gput_lt,gput_ne]
      ·simp (disch:=omega) only [gput_lt,gput_ne,gput_eq]
       try rfl
      ·simp (disch:=omega) only [gput_lt,gput_ne,gput_eq]
       try rfl
      ·have:=HO2.out
       rw [HST.out] at this
       exact this
     | cons z t' =>
      simp only [List.length_cons] at hpos hlt14 hz2 hrl hdr hdr2
      have hz3:((t'.length:Int)+1+1+1 - 2)=(t'.length:Int)+1:=by omega
      have hpos2:(1:Int) < (t'.length:Int)+1+1+1:=by omega
      have htn:((t'.length:Int)+1+1).toNat=t'.length+1+1:=by omega
      have htl:(List.take ((t'.length+1) * 4) r).length=(t'.length+1) * 4:=by rw [List.length_take]; omega
      try simp (maxSteps:=999999) (disch:=first | assumption | omega | (simp; done) | fail) [Tryd.results10, *]
      refine WC.mono (node_sl _ _ _ _ _ _ _) ?_
      rintro _ rfl
      try simp (maxSteps:=999999) (disch:=first | assumption | omega | (simp; done) | fail) [Tryd.results10, *]
      refine ih.out (12 - (i+1)) _ _ (by omega) ⟨i+1,n'+1+1+1+1+1+1,_,_,n'+1+1+1+1+1,(.slq (n'+1+1+1+1+1) 0 (((z :: t')).length+1) 0),_,(.mk 14 0 0 [x,y]) :: (z :: t'),by omega,by omega,rfl,rfl,by omega,fun q hq=>?_,HS.out.pop (t:=(z :: t')) (S:=n'+1) (B:=n'+1+1+1+1+1) (r0:=r0) (subs:=[x,y]) (by omega) (by omega) (by omega) (by omega) (by omega) (by omega) (fun q h1 h2 h3=>?_) ?_ ?_ HREP.out (repL_append (l:=[x]) (m:=[y]) (repL_one HX.out) (repL_one HY.out)) rfl (by omega),(by (try simp only [List.length_cons,List.length_nil] at hns ⊢); omega),by simp [*],by simp [*],by simp [*],by simp [*],by simp [*],by simp,?_⟩
      ·simp (disch:=omega) only [gput_lt,gput_ne]
       exact HG.out q hq
      ·simp (disch:=omega) only [gput_lt,gput_ne]
      ·simp (disch:=omega) only [gput_lt,gput_ne,gput_eq]
       try rfl
      ·rw [← HTK.out]
       simp (disch:=omega) only [gput_lt,gput_ne,gput_eq]
       try rfl
      ·have:=HO2.out
       rw [HST.out] at this
       exact this
  have ho4:(4:Int)≤(o:Int):=by omega
  have ho4n:4≤o:=by omega
  have ho5:¬(o:Int)=5:=by omega
  have ho6:¬(o:Int)=6:=by omega
  have ho10:¬(o:Int)=10:=by omega
  have ho14:¬(o:Int)=14:=by omega
  have hoz:¬(o:Int)=0:=by omega
  have ho2:¬(o:Int)=2:=by omega
  have ho3:¬(o:Int)=3:=by omega
  cases ns with
  | nil =>
   replace HST:Hide (stepF (1+a) (1+b) (1+c) cd []=(.mk 1 (kN:Nat) 0 []) :: []):=⟨by rw [HST.out]; unfold stepG; rw [if_neg cb,if_pos ho4n]⟩
   clear cb ho4n
   rcases HS.out.grow with hG0 | ⟨hpos,hsv,hA1,hA2,hA3,hA4⟩
   ·obtain ⟨hl0,hr0,hsv⟩:=hG0
    subst hsv
    have HJ:=Hide.mk (And.intro hl0 hr0)
    clear hl0 hr0
    try simp (maxSteps:=999999) (disch:=first | assumption | omega | (simp; done) | fail) [Tryd.results10, *]
    refine ih.out (12 - (i+1)) _ _ (by omega) ⟨i+1,n'+1+1,_,_,n'+1,(.slq (n'+1) 0 (([]).length+1) 0),_,(.mk 1 (kN:Nat) 0 []) :: [],by omega,by omega,rfl,rfl,by omega,fun q hq=>?_,HS.out.push (x:=(.mk 1 (kN:Nat) 0 [])) (X:=[.lit (.int .u8 1),.lit (.int .i64 (kN:Nat)),.lit (.int .i64 0),.lit (.slice none 0 0)]) (B:=n'+1) (by omega) (by omega) (by omega) (fun q h1 h2 h3=>?_) ?_ rfl (fun q b=>⟨by omega,_,rfl,.inl ⟨rfl,.inl rfl⟩⟩),(by (try simp only [List.length_cons,List.length_nil] at hns ⊢); omega),by simp [*],by simp [*],by simp [*],by simp [*],by rw [HJ.out.1]; simp [*],by simp,?_⟩
    ·simp (disch:=omega) only [gput_lt,gput_ne]
     exact HG.out q hq
    ·simp (disch:=omega) only [gput_lt,gput_ne]
    ·rw [HJ.out.2]; simp (disch:=omega) [gput_eq]
    ·have:=HO2.out
     rw [HST.out] at this
     exact this
   ·exact absurd hpos (by simp)
  | cons x t =>
   replace HST:Hide (stepF (1+a) (1+b) (1+c) cd (x :: t)=.mk o 0 0 [x] :: t):=⟨by rw [HST.out]; unfold stepG; rw [if_neg cb,if_pos ho4n]⟩
   clear cb ho4n
   obtain ⟨r0,cx,hsv,hA0,hA1,hA,hrl,htk,hdr,hrep0,hx⟩:=HS.out.last
   subst hsv
   obtain ⟨op2,k2,k22,sv2,rfl,h2c⟩ : ∃ (op2:Nat) (k2 k22:Int) (sv2:AV),cx=[.lit (.int .u8 op2),.lit (.int .i64 k2),.lit (.int .i64 k22),sv2]∧oneC sv2=true:=by
    obtain ⟨k2,k22,sv2,e1,e2,_⟩:=repN_one hx
    exact ⟨_,k2,k22,sv2,e1,e2⟩
   have h2a:allOne [.lit (.int .u8 op2),.lit (.int .i64 k2),.lit (.int .i64 k22),sv2]=true:=by simp [h2c]
   have hlt14:t.length < 12:=by simp at hns12; omega
   have hpos:(0:Int) < (t.length:Int)+1:=by omega
   have hw1:IntKind.i64.wrap ((t.length:Int)+1 - 1)=(t.length:Int):=by rw [show (t.length:Int)+1 - 1=t.length by omega]; exact wrap_i64 ⟨by omega,by omega⟩
   have HTK:=Hide.mk htk
   have HREP:=Hide.mk hrep0
   have HX:=Hide.mk hx
   clear hlS htk hrep0 hx
   cases t with
   | nil =>
    have hr3:r=[.lit (.int .u8 op2),.lit (.int .i64 k2),.lit (.int .i64 k22),sv2]:=by
     rw [← hdr]
     simp only [List.length_nil,Nat.zero_mul,List.drop_zero]
     rw [List.take_of_length_le (by rw [hrl]; simp)]
    subst hr3
    clear hdr
    try simp (maxSteps:=999999) (disch:=first | assumption | omega | (simp; done) | fail) [Tryd.results10, *]
    refine WC.mono (node_sl _ _ _ _ _ _ _) ?_
    rintro _ rfl
    try simp (maxSteps:=999999) (disch:=first | assumption | omega | (simp; done) | fail) [Tryd.results10, *]
    refine ih.out (12 - (i+1)) _ _ (by omega) ⟨i+1,n'+1+1+1+1+1,_,_,n'+1+1+1+1,(.slq (n'+1+1+1+1) 0 (([]).length+1) 0),_,(.mk o 0 0 [x]) :: [],by omega,by omega,rfl,rfl,by omega,fun q hq=>?_,HS.out.pop (t:=[]) (S:=n'+1) (B:=n'+1+1+1+1) (r0:=[]) (subs:=[x]) (by omega) (by omega) (by omega) (by omega) (by omega) (by omega) (fun q h1 h2 h3=>?_) ?_ ?_ rfl (repL_one HX.out) rfl (by omega),(by (try simp only [List.length_cons,List.length_nil] at hns ⊢); omega),by simp [*],by simp [*],by simp [*],by simp [*],by simp [*],by simp,?_⟩
    ·simp (disch:=omega) only [gput_lt,gput_ne]
     exact HG.out q hq
    ·simp (disch:=omega) only [gput_lt,gput_ne]
    ·simp (disch:=omega) only [gput_lt,gput_ne,gput_eq]
     try rfl
    ·simp (disch:=omega) only [gput_lt,gput_ne,gput_eq]
     try rfl
    ·have:=HO2.out
     rw [HST.out] at this
     exact this
   | cons y t' =>
    simp only [List.length_cons] at hpos hlt14 hw1 hrl hdr
    have hpos2:(0:Int) < (t'.length:Int)+1+1:=by omega
    have htl:(List.take ((t'.length+1) * 4) r).length=(t'.length+1) * 4:=by rw [List.length_take]; omega
    try simp (maxSteps:=999999) (disch:=first | assumption | omega | (simp; done) | fail) [Tryd.results10, *]
    refine WC.mono (node_sl _ _ _ _ _ _ _) ?_
    rintro _ rfl
    try simp (maxSteps:=999999) (disch:=first | assumption | omega | (simp; done) | fail) [Tryd.results10, *]
    refine ih.out (12 - (i+1)) _ _ (by omega) ⟨i+1,n'+1+1+1+1+1+1,_,_,n'+1+1+1+1+1,(.slq (n'+1+1+1+1+1) 0 (((y :: t')).length+1) 0),_,(.mk o 0 0 [x]) :: (y :: t'),by omega,by omega,rfl,rfl,by omega,fun q hq=>?_,HS.out.pop (t:=(y :: t')) (S:=n'+1) (B:=n'+1+1+1+1+1) (r0:=r0) (subs:=[x]) (by omega) (by omega) (by omega) (by omega) (by omega) (by omega) (fun q h1 h2 h3=>?_) ?_ ?_ HREP.out (repL_one HX.out) rfl (by omega),(by (try simp only [List.length_cons,List.length_nil] at hns ⊢); omega),by simp [*],by simp [*],by simp [*],by simp [*],by simp [*],by simp,?_⟩
    ·simp (disch:=omega) only [gput_lt,gput_ne]
     exact HG.out q hq
    ·simp (disch:=omega) only [gput_lt,gput_ne]
    ·simp (disch:=omega) only [gput_lt,gput_ne,gput_eq]
     try rfl
    ·rw [← HTK.out]
     simp (disch:=omega) only [gput_lt,gput_ne,gput_eq]
     try rfl
    ·have:=HO2.out
     rw [HST.out] at this
     exact this
 ·have hdrop:(codes.take 12).drop i=[]:=by
   apply List.drop_eq_nil_of_le
   rw [List.length_take]
   omega
  have hFN:Hide (F=topN ns):=⟨by
   have h1:=HOF.out
   rw [hdrop] at h1
   rw [HF.out,← h1]; rfl⟩
  have fin:∀ (g2:Nat→Option Blk) (n2:Nat) (cs:List AV),n'≤n2→(∀ q,q < n'→q≠n+1→q≠n+1+1→g2 q=g' q)→repN g2 n2 F cs →
    n≤n2∧(∀ b,b < n→g2 b=g b)∧RepM g2 n2 M [.lit (.int .i64 (1+(b:Int))),.lit (.int .i64 (1+(c:Int))),rv]∧repN g2 n2 F cs:=fun g2 n2 cs h1 h2 h3 =>
   ⟨by omega,fun q hq=>by rw [h2 q (by omega) (by omega) (by omega),HG.out q (by omega)]; exact A0.out q hq,
    (HRA.out.keep (Nat.le_refl _) (by omega) fun q h4 h5=>by rw [h2 q (by omega) (by omega) (by omega)]; exact HG.out q (by omega)).rep,h3⟩
  have FIN:=Hide.mk fin
  clear fin hdrop
  rcases HS.out.grow with hG0 | ⟨hpos,hsv,hA1,hA2,hA3,hA4⟩
  ·obtain ⟨hl0,hr0,hsv⟩:=hG0
   subst hsv
   have hn0:ns=[]:=List.length_eq_zero_iff.1 hl0
   subst hn0
   by_cases hx:i < codes.length
   ·have hxI:(i:Int) < (codes.length:Int):=by omega
    have hyI:¬(i:Int) < 12:=by omega
    try simp (maxSteps:=999999) (disch:=first | assumption | omega | (simp; done) | fail) [Tryd.results10, *]
    refine WC.mono (node_nil _ _ 0) ?_
    rintro _ rfl
    try simp (maxSteps:=999999) (disch:=first | assumption | omega | (simp; done) | fail) [Tryd.results10, *]
    refine ⟨_,_,_,_,⟨⟨rfl,rfl⟩,rfl,rfl⟩,FIN.out _ _ _ (by omega) (fun q h1 h2 h3=>by simp (disch:=omega) only [gput_lt,gput_ne]) ?_⟩
    rw [hFN.out]
    exact ⟨by omega,_,rfl,.inl ⟨rfl,.inl rfl⟩⟩
   ·have hxI:¬(i:Int) < (codes.length:Int):=by omega
    try simp (maxSteps:=999999) (disch:=first | assumption | omega | (simp; done) | fail) [Tryd.results10, *]
    refine WC.mono (node_nil _ _ 0) ?_
    rintro _ rfl
    try simp (maxSteps:=999999) (disch:=first | assumption | omega | (simp; done) | fail) [Tryd.results10, *]
    refine ⟨_,_,_,_,⟨⟨rfl,rfl⟩,rfl,rfl⟩,FIN.out _ _ _ (by omega) (fun q h1 h2 h3=>by simp (disch:=omega) only [gput_lt,gput_ne]) ?_⟩
    rw [hFN.out]
    exact ⟨by omega,_,rfl,.inl ⟨rfl,.inl rfl⟩⟩
  ·subst hsv
   obtain ⟨x,t,rfl⟩ : ∃ x t,ns=x :: t:=by
    cases ns with
    | nil=>simp at hpos
    | cons x t=>exact ⟨x,t,rfl⟩
   obtain ⟨r0,cx,_,_,_,_,hrl,htk,hdr,hrep0,hx⟩:=HS.out.last
   obtain ⟨op2,k2,k22,sv2,rfl,h2c⟩ : ∃ (op2:Nat) (k2 k22:Int) (sv2:AV),cx=[.lit (.int .u8 op2),.lit (.int .i64 k2),.lit (.int .i64 k22),sv2]∧oneC sv2=true:=by
    obtain ⟨k2,k22,sv2,e1,e2,_⟩:=repN_one hx
    exact ⟨_,k2,k22,sv2,e1,e2⟩
   have h2a:allOne [.lit (.int .u8 op2),.lit (.int .i64 k2),.lit (.int .i64 k22),sv2]=true:=by simp [h2c]
   have hw1:IntKind.i64.wrap ((t.length:Int)+1 - 1)=(t.length:Int):=by rw [show (t.length:Int)+1 - 1=t.length by omega]; exact wrap_i64 ⟨by simp at hns; omega,by simp at hns; omega⟩
   simp only [List.length_cons] at hpos hns
   have hne0:¬(t.length:Int)+1=0:=by omega
   have HX:=Hide.mk hx
   clear hx htk hrep0
   by_cases hx:i < codes.length
   ·have hxI:(i:Int) < (codes.length:Int):=by omega
    have hyI:¬(i:Int) < 12:=by omega
    try simp (maxSteps:=999999) (disch:=first | assumption | omega | (simp; done) | fail) [Tryd.results10, *]
    refine ⟨_,_,_,_,⟨⟨rfl,rfl⟩,rfl,rfl⟩,FIN.out _ _ _ (by omega) (fun q h1 h2 h3=>by simp (disch:=omega) only [gput_lt,gput_ne]) ?_⟩
    rw [hFN.out]
    refine repN_ext (by omega) (fun q z hq hz=>?_) HX.out
    obtain ⟨k1,k2,k3,k4⟩:=HS.out.kk q z hz
    simp (disch:=omega) only [gput_lt,gput_ne]
    exact k1
   ·have hxI:¬(i:Int) < (codes.length:Int):=by omega
    try simp (maxSteps:=999999) (disch:=first | assumption | omega | (simp; done) | fail) [Tryd.results10, *]
    refine ⟨_,_,_,_,⟨⟨rfl,rfl⟩,rfl,rfl⟩,FIN.out _ _ _ (by omega) (fun q h1 h2 h3=>by simp (disch:=omega) only [gput_lt,gput_ne]) ?_⟩
    rw [hFN.out]
    refine repN_ext (by omega) (fun q z hq hz=>?_) HX.out
    obtain ⟨k1,k2,k3,k4⟩:=HS.out.kk q z hz
    simp (disch:=omega) only [gput_lt,gput_ne]
    exact k1
end Go.Ai
end
