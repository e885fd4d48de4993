/- A small verified interpreter over names, its proofs, and what was proved with it. No condition. -/
import Derived.Test.YtiddfilinnbhaaaGreatDoorB05
import Derived.Test.YtiddfilinnbhaaaGreatDoorB08
set_option linter.all false
set_option linter.deprecated false
section
namespace Go.Ai
open Go.Proofs
set_option maxRecDepth 10000
set_option maxHeartbeats 40000000
def u16Cells (l:List Nat) : List AV:=l.map fun (c:Nat)=>.lit (.int .u16 (c:Int))
theorem MOf_w (st inp out:Nat) (part:Bool) (es:List Nat) (ev:AV) (g:Nat→Option Blk) (n:Nat) (hst:st < 256) (hinp:inp < 256) (hout:out < 256) (hes:SliceA g n ev es.length (u16Cells es)) (heb:∀ c∈es,c < 65536) :
  WC 3 Tryz.prog 18 [.agg [.lit (.int .u8 st),.lit (.int .u8 inp),.lit (.int .u8 out),.lit (.bool part),ev]] ⟨.fn g,n⟩ fun r=>∃ cs g' n',r=.ret (.agg cs) ⟨.fn g',n'⟩∧n≤n'∧(∀ b,b < n→g' b=g b)∧FreshM g' n n' (machOf st inp out part es) cs:=by
 have h1e:=hes.one
 have h1a:allOne [.lit (.int .u8 st),.lit (.int .u8 inp),.lit (.int .u8 out),.lit (.bool part),ev]=true:=by simp [h1e]
 have HE:=Hide.mk hes
 have HB:=Hide.mk heb
 clear hes heb
 have hm1:(st:Int).tmod 6=((st % 6:Nat) : Int):=(Int.ofNat_tmod st 6).symm
 have hm2:(inp:Int).tmod 3=((inp % 3:Nat) : Int):=(Int.ofNat_tmod inp 3).symm
 have hm3:(out:Int).tmod 3=((out % 3:Nat) : Int):=(Int.ofNat_tmod out 3).symm
 have HM:Hide (machOf st inp out part es=⟨1+((inp % 3:Nat) : Int),1+((out % 3:Nat) : Int),(List.range (1+st % 6)).map (rowM part es (1+st % 6) (1+inp % 3) (1+out % 3))⟩):=⟨rfl⟩
 have ha:=Nat.mod_lt st (show 0 < 6 by omega)
 have hb:=Nat.mod_lt inp (show 0 < 3 by omega)
 have hc:=Nat.mod_lt out (show 0 < 3 by omega)
 generalize machOf st inp out part es=M at *
 generalize st % 6=a at *
 generalize inp % 3=b at *
 generalize out % 3=c at *
 refine WC.enterP (noO_ok _ _) hG pl18 Tryz.func18 rfl (by decide +kernel) (Nat.le_of_ble_eq_true (by kernel_rfl)) ?_
 iterate 6 all_goals try first|with_reducible refine spI (fun h=>?_) fun h=>?_|with_reducible refine spB (fun h=>?_) fun h=>?_|simp (maxSteps:=999999) (disch:=first|assumption|omega|(simp;done)|fail) [Tryz.results18, *]
 refine LX.ind (fun m gf H'=>∃ (s n' : Nat) (g' gk:Nat→Option Blk) (A:Nat) (rv:AV) (svs:List AV),s≤1+a∧m=1+a - s∧H'=⟨.fn g',n'⟩∧n+1+1+1≤n'∧(∀ b,b < n→g' b=g b)∧g' n=some (.cells [.lit (.int .u8 st),.lit (.int .u8 inp),.lit (.int .u8 out),.lit (.bool part),ev] true 0)∧g' (n+1)=some (.cells [.lit (.int .i64 0),.lit (.int .i64 0),.lit (.slice none 0 0)] true 0)∧g' (n+1+1)=some (.cells [.lit (.int .i64 (1+(b:Int))),.lit (.int .i64 (1+(c:Int))),rv] true 0) ∧
  GrowV g' (n+1+1+1) n' A rv s 1 svs∧RowsE gk n' ((List.range s).map (rowM part es (1+a) (1+b) (1+c))) svs∧(∀ q z,gk q=some z→g' q=some z∧q≠A∧n+1+1+1≤q∧q < n')∧gf 1=some (.ptr n 0)∧gf 2=some (.ptr (n+1) 0)∧gf 3=some (.lit (.int .i64 (1+(a:Int))))∧gf 4=some (.ptr (n+1+1) 0)∧gf 5=some (.lit (.int .i64 s))) (m0:=1+a) ?_ ?_
 ·refine ⟨0,_,_,fun _=>none,0,_,[],by omega,rfl,rfl,by omega,fun q hq=>?_,?_,?_,?_,.inl ⟨rfl,rfl,rfl⟩,rfl,fun q z h=>(by cases h),by simp,by simp,by simp,by simp,by simp⟩
  ·simp (disch:=omega) only [gpl]
  ·simp (disch:=omega) only [gpl,gpe]
  ·simp (disch:=omega) only [gpl,gpe]
  ·simp (disch:=omega) only [gpl,gpe]
 rintro m gf H' ⟨s,n1,g1,gk,A,rv,svs,hs,rfl,rfl,hn1,hg1,e0,e1,e2,hA,hrows,hk,w1,w2,w3,w4,w5⟩ ih
 have HG1:=Hide.mk hg1
 have HA:=Hide.mk hA
 have HK:=Hide.mk hk
 have HR:=Hide.mk hrows
 clear hg1 hA hk hrows
 refine LX.roundP (noO_ok _ _) hG pl18 (by decide +kernel) ?_
 by_cases hlt:s < 1+a
 ·have hltI:(s:Int) < 1+(a:Int):=by omega
  iterate 6 all_goals try first|with_reducible refine spI (fun h=>?_) fun h=>?_|with_reducible refine spB (fun h=>?_) fun h=>?_|simp (maxSteps:=999999) (disch:=first|assumption|omega|(simp;done)|fail) [Tryz.results18, *]
  refine LX.ind (fun m gf H'=>∃ (j n' : Nat) (g' : Nat→Option Blk) (B:Nat) (sv:AV) (rr:List AV),j≤1+b∧m=1+b - j∧H'=⟨.fn g',n'⟩∧n1≤n'∧(∀ q,q < n1→g' q=g1 q) ∧
   GrowV g' n1 n' B sv j 2 rr∧Hide (rr=rowC ((List.range j).map fun i=>edgeM part (1+a) (1+c) (es.getD (s * (1+b)+i) 0)))∧gf 1=some (.ptr n 0)∧gf 2=some (.ptr (n+1) 0)∧gf 3=some (.lit (.int .i64 (1+(a:Int))))∧gf 4=some (.ptr (n+1+1) 0)∧gf 5=some (.lit (.int .i64 s))∧gf 6=some sv∧gf 7=some (.lit (.int .i64 j))) (m0:=1+b) ?_ ?_
  ·refine ⟨0,_,_,0,_,_,by omega,rfl,rfl,by omega,fun q hq=>rfl,.inl ⟨rfl,rfl,rfl⟩,⟨rfl⟩,by simp [*],by simp [*],by simp [*],by simp [*],by simp [*],by simp,by simp⟩
  rintro m gf H' ⟨j,n',g',B,sv,rr,hj,rfl,rfl,hn',hg',hB,hrr,v1,v2,v3,v4,v5,v6,v7⟩ ihj
  have HG:=Hide.mk hg'
  have HBv:=Hide.mk hB
  clear hg' hB
  have f0:=(HG.out n (by omega)).trans e0
  have f2:=(HG.out (n+1+1) (by omega)).trans e2
  refine LX.roundP (noO_ok _ _) hG pl18 (by decide +kernel) ?_
  by_cases hjt:j < 1+b
  ·have hjtI:(j:Int) < 1+(b:Int):=by omega
   have hp:s * (1+b)≤15:=Nat.le_trans (Nat.mul_le_mul (show s≤5 by omega) (show 1+b≤3 by omega)) (by omega)
   have hmul:(s:Int) * (1+(b:Int))=((s * (1+b) : Nat) : Int):=by simp
   generalize hpe:s * (1+b)=p at *
   have hvl:es.getD (p+j) 0 < 65536:=by
    rw [List.getD_eq_getElem?_getD]
    cases hq:es[p+j]? with
    | none=>simp
    | some x=>exact HB.out x (List.mem_of_getElem? hq)
   generalize hv:es.getD (p+j) 0=v at *
   have hq4:(v:Int).tdiv 4=((v / 4:Nat) : Int):=rfl
   have hr4:(v:Int).tmod 4=((v % 4:Nat) : Int):=(Int.ofNat_tmod v 4).symm
   generalize hqe:v / 4=q at *
   generalize hre:v % 4=r at *
   have hqa:(q:Int).tmod (1+(a:Int))=((q % (1+a) : Nat) : Int):=by rw [show (1+(a:Int))=((1+a:Nat) : Int) by omega]; exact (Int.ofNat_tmod q (1+a)).symm
   have hqb:(q:Int).tdiv (1+(a:Int))=((q / (1+a) : Nat) : Int):=by rw [show (1+(a:Int))=((1+a:Nat) : Int) by omega]; rfl
   have hql:q / (1+a)≤q:=Nat.div_le_self _ _
   generalize hde:q / (1+a)=d at *
   have hdc:(d:Int).tmod (1+(c:Int))=((d % (1+c) : Nat) : Int):=by rw [show (1+(c:Int))=((1+c:Nat) : Int) by omega]; exact (Int.ofNat_tmod d (1+c)).symm
   have hEd:Hide (edgeM part (1+a) (1+c) v=if part=true∧r=3 then (-1,-1) else (((q % (1+a) : Nat) : Int),((d % (1+c) : Nat) : Int))):=⟨by rw [← hre,← hde,← hqe]; rfl⟩
   have hz:v=0→q % (1+a)=0∧d % (1+c)=0∧r=0:=fun e=>by
    have e1:q=0:=by rw [← hqe,e]
    have e2:d=0:=by rw [← hde,e1]; simp
    have e3:r=0:=by rw [← hre,e]
    exact ⟨by rw [e1]; simp,by rw [e2]; simp,e3⟩
   have HZ:=Hide.mk hz
   clear hz
   generalize q % (1+a)=x at *
   generalize d % (1+c)=y at *
   have hql2:q≤v:=by omega
   have hlen:∀ {H:Mem} {e' : Ev} {o:Oper} {c' : Call} {e:TypeId},lenS Tryz.prog H e' o c' (some (.slice e)) (some [ev])=.val (.lit (.int .i64 es.length)) H:=by
    intro H e' o c' e
    rcases HE.out with ⟨h1,rfl | rfl⟩ | ⟨a2,off,c2,_,rfl,_⟩
    ·rw [h1]; rfl
    ·rw [h1]; rfl
    ·rfl
   have hEr:Hide (rowC (List.map (fun i=>edgeM part (1+a) (1+c) (es.getD (p+i) 0)) (List.range (j+1)))=rr++[.lit (.int .i64 (edgeM part (1+a) (1+c) v).1),.lit (.int .i64 (edgeM part (1+a) (1+c) v).2)]):=⟨by rw [List.range_succ,List.map_append,List.map_singleton,hv,rowC_snoc,hrr.out]⟩
   have hdv:d≤v:=by omega
   clear hqe hre hde hql
   by_cases hin:p+j < es.length
   ·have hinI:(p:Int)+(j:Int) < (es.length:Int):=by omega
    rcases HE.out with ⟨h1,_⟩ | ⟨a2,off,c2,ha2,rfl,hrow⟩
    ·omega
    have hnum:=(hrow.mono ((HG.out a2 (by omega)).trans (HG1.out a2 ha2))).one (k:=p+j) (s:=1) (by simp only [u16Cells,List.length_map]; exact hin)
    have hcell:(u16Cells es)[p+j]'(by simp only [u16Cells,List.length_map]; exact hin)=.lit (.int .u16 (v:Int)):=by simp only [u16Cells,List.getElem_map]; rw [← hv,List.getD_eq_getElem?_getD,List.getElem?_eq_getElem hin]; rfl
    rw [hcell] at hnum
    clear hv hcell hrow
    have htn:((p:Int)+(j:Int)).toNat=p+j:=by omega
    rcases HBv.out with hB0 | ⟨hpos,hsv,hB1,hB2,hB3,hB4⟩
    ·obtain ⟨hj0,hnil,hsv⟩:=hB0
     subst hsv
     have HJ:=Hide.mk (And.intro hj0 hnil)
     clear hj0 hnil
     cases part <;> by_cases hr3:r=3
     all_goals
      first
       | have hrI:(r:Int)=3:=by omega
       | have hrI:¬(r:Int)=3:=by omega
      iterate 6 all_goals try first|with_reducible refine spI (fun h=>?_) fun h=>?_|with_reducible refine spB (fun h=>?_) fun h=>?_|simp (maxSteps:=999999) (disch:=first|assumption|omega|(simp;done)|fail) [Tryz.results18, *]
      refine ihj.out (1+b - (j+1)) _ _ (by omega) ⟨j+1,n'+1+1,_,n'+1,.slq (n'+1) 0 (j+1) 0,_,by omega,rfl,rfl,by omega,fun q hq=>?_,.mk gpe (by omega) (by omega) ?_,⟨?_⟩,by simp [*],by simp [*],by simp [*],by simp [*],by simp [*],by rw [HJ.out.1]; simp [*],by simp⟩
      ·simp (disch:=omega) only [gpl,gpn]
       exact HG.out q hq
      ·rw [HJ.out.1]; simp [*]
      ·rw [hEr.out,hEd.out]
       rw [HJ.out.2]; simp [*]
    ·subst hsv
     have hj6:j≤1000000:=by omega
     cases part <;> by_cases hr3:r=3
     all_goals
      first
       | have hrI:(r:Int)=3:=by omega
       | have hrI:¬(r:Int)=3:=by omega
      iterate 6 all_goals try first|with_reducible refine spI (fun h=>?_) fun h=>?_|with_reducible refine spB (fun h=>?_) fun h=>?_|simp (maxSteps:=999999) (disch:=first|assumption|omega|(simp;done)|fail) [Tryz.results18, *]
      refine ihj.out (1+b - (j+1)) _ _ (by omega) ⟨j+1,n'+1+1,_,n'+1,.slq (n'+1) 0 (j+1) 0,_,by omega,rfl,rfl,by omega,fun q hq=>?_,.mk gpe (by omega) (by omega) ?_,⟨?_⟩,by simp [*],by simp [*],by simp [*],by simp [*],by simp [*],by simp [*],by simp⟩
      ·simp (disch:=omega) only [gpl,gpn]
       exact HG.out q hq
      ·simp [*]; omega
      ·rw [hEr.out,hEd.out]
       simp [*]
   ·have hinI:¬(p:Int)+(j:Int) < (es.length:Int):=by omega
    have hv0:v=0:=by
     rw [← hv,List.getD_eq_getElem?_getD,List.getElem?_eq_none (by omega)]; rfl
    obtain ⟨hx0,hy0,hr0⟩:=HZ.out hv0
    clear hv hq4 hr4 hqa hqb hdc
    rcases HBv.out with hB0 | ⟨hpos,hsv,hB1,hB2,hB3,hB4⟩
    ·obtain ⟨hj0,hnil,hsv⟩:=hB0
     subst hsv
     have HJ:=Hide.mk (And.intro hj0 hnil)
     clear hj0 hnil
     cases part
     all_goals
      iterate 6 all_goals try first|with_reducible refine spI (fun h=>?_) fun h=>?_|with_reducible refine spB (fun h=>?_) fun h=>?_|simp (maxSteps:=999999) (disch:=first|assumption|omega|(simp;done)|fail) [Tryz.results18, *]
      refine ihj.out (1+b - (j+1)) _ _ (by omega) ⟨j+1,n'+1+1,_,n'+1,.slq (n'+1) 0 (j+1) 0,_,by omega,rfl,rfl,by omega,fun q hq=>?_,.mk gpe (by omega) (by omega) ?_,⟨?_⟩,by simp [*],by simp [*],by simp [*],by simp [*],by simp [*],by rw [HJ.out.1]; simp [*],by simp⟩
      ·simp (disch:=omega) only [gpl,gpn]
       exact HG.out q hq
      ·rw [HJ.out.1]; simp [*]
      ·rw [hEr.out,hEd.out]
       rw [HJ.out.2]; simp [*]
    ·subst hsv
     have hj6:j≤1000000:=by omega
     cases part
     all_goals
      iterate 6 all_goals try first|with_reducible refine spI (fun h=>?_) fun h=>?_|with_reducible refine spB (fun h=>?_) fun h=>?_|simp (maxSteps:=999999) (disch:=first|assumption|omega|(simp;done)|fail) [Tryz.results18, *]
      refine ihj.out (1+b - (j+1)) _ _ (by omega) ⟨j+1,n'+1+1,_,n'+1,.slq (n'+1) 0 (j+1) 0,_,by omega,rfl,rfl,by omega,fun q hq=>?_,.mk gpe (by omega) (by omega) ?_,⟨?_⟩,by simp [*],by simp [*],by simp [*],by simp [*],by simp [*],by simp [*],by simp⟩
      ·simp (disch:=omega) only [gpl,gpn]
       exact HG.out q hq
      ·simp [*]; omega
      ·rw [hEr.out,hEd.out]
       simp [*]
  ·have Hj2:Hide (j=1+b):=⟨by omega⟩
   have hjtI:¬(j:Int) < 1+(b:Int):=by omega
   have hs6:s≤1000000:=by omega
   rcases HBv.out with ⟨h0,_⟩ | ⟨hpos,hsv,hB1,hB2,hB3,hB4⟩
   ·omega
   subst hsv
   have HB4:=Hide.mk hB4
   clear hB4
   have HR2:Hide (RowsE (gput gk B (some (.cells rr true 2))) (n'+1+1) ((List.range (s+1)).map (rowM part es (1+a) (1+b) (1+c))) (svs++[.slq B 0 j 0])):=⟨by
    rw [List.range_succ,List.map_append,List.map_singleton]
    refine RowsE.snoc ?_ (HR.out.ext (by omega) fun q z hq hz=>(gpl (by omega)).trans hz)
    rw [show (rowM part es (1+a) (1+b) (1+c) s).length=j by unfold rowM; simp [Hj2.out]]
    refine .inr ⟨B,0,by omega,.inr ⟨0,rfl⟩,rr,true,2,gpe,?_,?_⟩
    ·rw [show rowC (rowM part es (1+a) (1+b) (1+c) s)=rr by rw [hrr.out,Hj2.out]; rfl]; simp
    ·rw [show rowC (rowM part es (1+a) (1+b) (1+c) s)=rr by rw [hrr.out,Hj2.out]; rfl]; simp⟩
   have HK2:Hide (∀ q z,gput gk B (some (.cells rr true 2)) q=some z→g' q=some z∧q≠n'∧q≠n'+1∧q≠n+1+1∧n+1+1+1≤q∧q < n'∧(A < n1→q≠A)):=⟨fun q z hz=>by
    rcases gput_v hz with ⟨rfl,h⟩ | ⟨_,hz⟩
    ·cases h; exact ⟨hB3,by omega,by omega,by omega,by omega,hB2,by omega⟩
    ·obtain ⟨k1,k2,k3,k4⟩:=HK.out q z hz
     exact ⟨(HG.out q k4).trans k1,by omega,by omega,by omega,k3,by omega,fun _=>k2⟩⟩
   rcases HA.out with hA0 | ⟨hspos,hrv,hA1,hA2,hA3,hA4⟩
   ·obtain ⟨hs0,hnil,hrv⟩:=hA0
    subst hrv
    have HJ:=Hide.mk (And.intro hs0 hnil)
    clear hs0 hnil
    iterate 6 all_goals try first|with_reducible refine spI (fun h=>?_) fun h=>?_|with_reducible refine spB (fun h=>?_) fun h=>?_|simp (maxSteps:=999999) (disch:=first|assumption|omega|(simp;done)|fail) [Tryz.results18, *]
    refine ih.out (1+a - (s+1)) _ _ (by omega) ⟨s+1,n'+1+1,_,_,n'+1,.slq (n'+1) 0 (s+1) 0,svs++[.slq B 0 j 0],by omega,rfl,rfl,by omega,fun q hq=>?_,?_,?_,?_,.mk ?_ (by omega) (by omega) ?_,HR2.out,fun q z hz=>?_,by simp [*],by simp [*],by simp [*],by simp [*],by simp [*]⟩
    ·simp (disch:=omega) only [gpl,gpn]
     rw [HG.out q (by omega)]
     exact HG1.out q hq
    ·simp (disch:=omega) only [gpl,gpn]
     exact f0
    ·simp (disch:=omega) only [gpl,gpn]
     rw [HG.out (n+1) (by omega)]
     exact e1
    ·rw [HJ.out.1]; simp [*]
    ·rw [HJ.out.2]; simp (disch:=omega) [gpn,gpe]
    ·rw [HJ.out.1,HJ.out.2]; simp [*]
    ·obtain ⟨k1,k2,k3,k4,k5,k6,k7⟩:=HK2.out q z hz
     refine ⟨?_,k3,k5,by omega⟩
     simp (disch:=omega) only [gpl,gpn]
     exact k1
   ·subst hrv
    have hA5:=(HG.out A hA2).trans hA3
    iterate 6 all_goals try first|with_reducible refine spI (fun h=>?_) fun h=>?_|with_reducible refine spB (fun h=>?_) fun h=>?_|simp (maxSteps:=999999) (disch:=first|assumption|omega|(simp;done)|fail) [Tryz.results18, *]
    refine ih.out (1+a - (s+1)) _ _ (by omega) ⟨s+1,n'+1+1,_,_,n'+1,.slq (n'+1) 0 (s+1) 0,svs++[.slq B 0 j 0],by omega,rfl,rfl,by omega,fun q hq=>?_,?_,?_,?_,.mk ?_ (by omega) (by omega) ?_,HR2.out,fun q z hz=>?_,by simp [*],by simp [*],by simp [*],by simp [*],by simp [*]⟩
    ·simp (disch:=omega) only [gpl,gpn]
     rw [HG.out q (by omega)]
     exact HG1.out q hq
    ·simp (disch:=omega) only [gpl,gpn]
     exact f0
    ·simp (disch:=omega) only [gpl,gpn]
     rw [HG.out (n+1) (by omega)]
     exact e1
    ·simp [*]
    ·simp (disch:=omega) [gpn,gpe]
    ·simp [*]
    ·obtain ⟨k1,k2,k3,k4,k5,k6,k7⟩:=HK2.out q z hz
     refine ⟨?_,k3,k5,by omega⟩
     have k8:=k7 hA2
     simp (disch:=omega) only [gpl,gpn]
     exact k1
 ·have hltI:¬(s:Int) < 1+(a:Int):=by omega
  have hs2:s=1+a:=by omega
  have h1r:=HA.out.one
  have h1m:allOne [.lit (.int .i64 (1+(b:Int))),.lit (.int .i64 (1+(c:Int))),rv]=true:=by simp [h1r]
  have hlen:svs.length=s:=by rw [HR.out.len]; simp
  have HREP:Hide (RepM (fun q=>if q=A∧n+1+1+1≤A∧A < n1 then g1 A else gk q) n1 M [.lit (.int .i64 (1+(b:Int))),.lit (.int .i64 (1+(c:Int))),rv]):=⟨by
   rw [HM.out]
   refine ⟨rv,svs,rfl,?_,?_⟩
   ·show RowsE _ n1 ((List.range (1+a)).map _) svs
    have hrs:=HR.out
    rw [hs2] at hrs
    refine hrs.ext (Nat.le_refl _) fun q z _ hz=>?_
    obtain ⟨k1,k2,k3,k4⟩:=HK.out q z hz
    show (if q=A∧n+1+1+1≤A∧A < n1 then g1 A else gk q)=some z
    rw [if_neg (fun h=>k2 h.1)]; exact hz
   ·show SliceV _ n1 rv ((List.range (1+a)).map _).length svs
    rw [List.length_map,List.length_range,← hs2]
    refine HA.out.slice.ext (Nat.le_refl _) fun q z _ hz=>?_
    have hz' : (if q=A∧n+1+1+1≤A∧A < n1 then g1 q else none)=some z:=hz
    show (if q=A∧n+1+1+1≤A∧A < n1 then g1 A else gk q)=some z
    split at hz'
    ·rename_i h
     rw [if_pos h,← h.1]; exact hz'
    ·cases hz'⟩
  clear hs2 hlen
  iterate 6 all_goals try first|with_reducible refine spI (fun h=>?_) fun h=>?_|with_reducible refine spB (fun h=>?_) fun h=>?_|simp (maxSteps:=999999) (disch:=first|assumption|omega|(simp;done)|fail) [Tryz.results18, *]
  refine ⟨_,_,_,⟨rfl,rfl,rfl⟩,by omega,fun q hq=>?_,_,fun q z hz=>?_,HREP.out⟩
  ·rw [gpl (by omega)]; exact HG1.out q hq
  ·have hz' : (if q=A∧n+1+1+1≤A∧A < n1 then g1 A else gk q)=some z:=hz
   split at hz'
   ·rename_i h
    obtain ⟨rfl,h2,h3⟩:=h
    exact ⟨by rw [gpn (by omega)]; exact hz',by omega,h3⟩
   ·obtain ⟨k1,k2,k3,k4⟩:=HK.out q z hz'
    exact ⟨by rw [gpn (by omega)]; exact k1,by omega,k4⟩
end Go.Ai
end
