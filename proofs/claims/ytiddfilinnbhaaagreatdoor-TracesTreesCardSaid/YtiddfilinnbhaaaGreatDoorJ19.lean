/- A small verified interpreter over names, its proofs, and what was proved with it. No condition. -/
import Derived.Test.YtiddfilinnbhaaaGreatDoorCards
import Derived.Test.YtiddfilinnbhaaaGreatDoorTie
import Derived.WalkKit
import Derived.OpenShut
import Derived.Deep.DeepHandedRow
import Derived.LaidOnce
import Derived.Lay
import Derived.Test.YtiddfilinnbhaaaGreatDoorJ12
import Derived.Test.YtiddfilinnbhaaaGreatDoorJ18
import Derived.Test.YtiddfilinnbhaaaGreatDoorJ05
import Derived.Test.YtiddfilinnbhaaaGreatDoorJ08
set_option linter.all false
set_option linter.deprecated false
section
namespace Go.Ai
open Go.Proofs Go.ChangeShapes Go.WideShapes Go.ChangeAt Go.RowKit
set_option maxRecDepth 10000
variable {H:Type} {enc:TypeId×Value→H} {w:World}
def TreeR (g:Nat→Option Blk) (n:Nat) (T:List (List (Int×Int))) (sv:AV) : Prop:=∃ svs,SliceV g n sv T.length svs∧RowsK g n T svs
theorem c36:Tryz.prog.cellsOf 36=1:=by kernel_rfl
theorem c44:Tryz.prog.cellsOf 44=3:=by kernel_rfl
theorem c81:Tryz.prog.cellsOf 81=1:=by kernel_rfl
theorem c92:Tryz.prog.cellsOf 92=2:=by kernel_rfl
def EdgeR (_:Nat→Option Blk) (_:Nat) (x:Int×Int) (avs:List AV) : Prop:=avs=edC x
theorem edge_mk (fuel:Nat) (cs:List Value) (d:DataW H) (p:List MemPlace) (h:DataW.trod enc Tryz.prog w 0 (fun _=>true) true fuel 92 cs=some (d,p)) (N:Nat) (hN:fuel≤N) (g:Nat→Option Blk) (b:Nat) :
  ∃ avs g' b' x,mkD Tryz.prog noTok N 92 d ⟨.fn g,b⟩=some (avs,⟨.fn g',b'⟩)∧b≤b'∧(∀ a,a < b→g' a=g a)∧EdgeR g' b' x avs:=by
 obtain ⟨xs,m,rfl,hd,hl,hn,he⟩:=DataW.trod_struct Tryz.underlying92 h
 rw [c92] at hl
 obtain ⟨v0,v1,rfl⟩:=two_of hl
 have h0:DataW.trod enc Tryz.prog w 0 (fun _=>true) true m 3 (([v0,v1].drop 0).take (Tryz.prog.cellsOf 3))=xs[0]?:=he 0 _ rfl
 have h1:DataW.trod enc Tryz.prog w 0 (fun _=>true) true m 3 (([v0,v1].drop 1).take (Tryz.prog.cellsOf 3))=xs[1]?:=he 1 _ rfl
 rw [c3] at h0 h1
 have hn' : xs.length=2:=hn
 obtain ⟨x0,x1,rfl⟩ : ∃ a b,xs=[a,b]:=by
  match xs,hn' with
  | [a,b],_=>exact ⟨a,b,rfl⟩
 obtain ⟨to,e0,f0,_⟩:=DataW.trod_int (x:=x0) Tryz.underlying3 h0
 obtain ⟨out,e1,f1,_⟩:=DataW.trod_int (x:=x1) Tryz.underlying3 h1
 subst f0
 subst f1
 have hd' : d=.agg [.lit (.int .i64 to),.lit (.int .i64 out)]:=congrArg Prod.fst hd
 subst hd'
 have hm0:m≠0:=by rintro rfl; simp [DataW.trod] at h0
 obtain ⟨N,rfl⟩ : ∃ M,N=M+2:=⟨N - 2,by omega⟩
 refine ⟨[.lit (.int .i64 to),.lit (.int .i64 out)],g,b,(to,out),?_,Nat.le_refl _,fun _ _=>rfl,rfl⟩
 have i1:∀ k:Int,mkD (Hh:=H) Tryz.prog noTok (N+1) 3 (.lit (.int .i64 k)) ⟨.fn g,b⟩=some ([.lit (.int .i64 k)],⟨.fn g,b⟩):=by
  intro k; unfold mkD; rw [Tryz.underlying3]
 unfold mkD
 rw [Tryz.underlying92]
 dsimp only
 simp only [mkF,i1,c3,c92]
 rfl
theorem edges_of {g:Nat→Option Blk} {b:Nat} : ∀ {l:List (Int×Int)} {cs:List AV},RL EdgeR g b l cs→cs=l.flatMap edC
 | [],_,h=>h
 | x :: l,_,⟨c,r,h1,h2,h3⟩=>by
  have h2:c=edC x:=h2
  rw [h1,h2,edges_of h3]; rfl
def ERowR (g:Nat→Option Blk) (b:Nat) (x:List (Int×Int)) (avs:List AV) : Prop:=∃ sv,avs=[sv]∧RepE g b x sv
theorem erow_mk (fuel:Nat) (cs:List Value) (d:DataW H) (p:List MemPlace) (h:DataW.trod enc Tryz.prog w 0 (fun _=>true) true fuel 81 cs=some (d,p)) (N:Nat) (hN:fuel≤N) (g:Nat→Option Blk) (b:Nat) :
  ∃ avs g' b' x,mkD Tryz.prog noTok N 81 d ⟨.fn g,b⟩=some (avs,⟨.fn g',b'⟩)∧b≤b'∧(∀ a,a < b→g' a=g a)∧ERowR g' b' x avs:=by
 obtain ⟨s,rfl⟩:=slice_one Tryz.underlying81 h
 obtain ⟨sv,g1,b1,l,e1,t1,t2,tc,t3⟩:=name_slice (R:=EdgeR) Tryz.underlying81 c92 (by decide) (fun _ _ h=>h) (fun h=>by rw [show _=_ from h]; rfl) h (fun m cs d p _ h N hN g b=>edge_mk m cs d p h N hN g b) N hN g b
 refine ⟨[sv],g1,b1,l,e1,t1,t2,sv,rfl,?_⟩
 rcases t3 with ⟨rfl,h⟩ | ⟨a,off,r,q1,q2,q3,q4⟩
 ·exact .inl ⟨rfl,rfl,h⟩
 ·exact .inr ⟨a,off,q1,.inl q2,by rw [← edges_of q4]; exact q3⟩
theorem erows_of {g:Nat→Option Blk} {b:Nat} : ∀ {l:List (List (Int×Int))} {cs:List AV},RL ERowR g b l cs→RowsK g b l cs
 | [],_,h=>by
  have h:_=[]:=h
  subst h
  exact ⟨rfl,fun k hk=>by simp at hk⟩
 | x :: l,_,⟨c,r,h1,⟨sv,h2,h3⟩,h5⟩=>by
  obtain ⟨i1,i2⟩:=erows_of h5
  subst h1 h2
  refine ⟨by simp [i1],fun k hk=>?_⟩
  cases k with
  | zero=>exact ⟨sv,rfl,h3⟩
  | succ k =>
   obtain ⟨sv',j1,j2⟩:=i2 k (by simpa using hk)
   exact ⟨sv',by simpa using j1,by simpa using j2⟩
theorem rows_mk (fuel:Nat) (s:Value) (d:DataW H) (p:List MemPlace) (h:DataW.trod enc Tryz.prog w 0 (fun _=>true) true fuel 36 [s]=some (d,p)) (N:Nat) (hN:fuel≤N) (g:Nat→Option Blk) (b:Nat) :
  ∃ sv g' b' l,mkD Tryz.prog noTok N 36 d ⟨.fn g,b⟩=some ([sv],⟨.fn g',b'⟩)∧b≤b'∧(∀ a,a < b→g' a=g a)∧TreeR g' b' l sv:=by
 obtain ⟨sv,g1,b1,l,e1,t1,t2,tc,t3⟩:=name_slice (R:=ERowR) Tryz.underlying36 c81 (by decide) (fun h1 h2 ⟨sv,e,h3⟩=>⟨sv,e,SliceV.mono h1 h2 h3⟩) (fun ⟨sv,e,_⟩=>by rw [e]; rfl) h (fun m cs d p _ h N hN g b=>erow_mk m cs d p h N hN g b) N hN g b
 refine ⟨sv,g1,b1,l,e1,t1,t2,?_⟩
 rcases t3 with ⟨rfl,h⟩ | ⟨a,off,r,q1,q2,q3,q4⟩
 ·exact ⟨[],.inl ⟨rfl,rfl,h⟩,rfl,fun k hk=>by simp at hk⟩
 ·exact ⟨r,.inr ⟨a,off,q1,.inl q2,q3⟩,erows_of q4⟩
theorem tree_mk (fuel:Nat) (cs:List Value) (d:DataW H) (p:List MemPlace) (h:DataW.trod enc Tryz.prog w 0 (fun _=>true) true fuel 44 cs=some (d,p)) (N:Nat) (hN:fuel≤N) (g:Nat→Option Blk) (b:Nat) :
  ∃ I O sv g' b' T,mkD Tryz.prog noTok N 44 d ⟨.fn g,b⟩=some ([.lit (.int .i64 I),.lit (.int .i64 O),sv],⟨.fn g',b'⟩)∧b≤b'∧(∀ a,a < b→g' a=g a)∧TreeR g' b' T sv:=by
 obtain ⟨xs,m,rfl,hd,hl,hn,he⟩:=DataW.trod_struct Tryz.underlying44 h
 rw [c44] at hl
 obtain ⟨v0,v1,v2,rfl⟩:=three_of hl
 have h0:DataW.trod enc Tryz.prog w 0 (fun _=>true) true m 3 (([v0,v1,v2].drop 0).take (Tryz.prog.cellsOf 3))=xs[0]?:=he 0 _ rfl
 have h1:DataW.trod enc Tryz.prog w 0 (fun _=>true) true m 3 (([v0,v1,v2].drop 1).take (Tryz.prog.cellsOf 3))=xs[1]?:=he 1 _ rfl
 have h2:DataW.trod enc Tryz.prog w 0 (fun _=>true) true m 36 (([v0,v1,v2].drop 2).take (Tryz.prog.cellsOf 36))=xs[2]?:=he 2 _ rfl
 rw [c3] at h0 h1
 rw [c36] at h2
 obtain ⟨x0,x1,x2,rfl⟩:=three_xs (show xs.length=3 from hn)
 obtain ⟨I,e0,f0,_⟩:=DataW.trod_int (x:=x0) Tryz.underlying3 h0
 obtain ⟨O,e1,f1,_⟩:=DataW.trod_int (x:=x1) Tryz.underlying3 h1
 subst f0
 subst f1
 have hx2:DataW.trod enc Tryz.prog w 0 (fun _=>true) true m 36 [v2]=some (x2.1,x2.2):=h2
 obtain ⟨sv,g1,b1,T,e2,k1,k2,k3⟩:=rows_mk m v2 _ _ hx2 (N - 1) (by omega) g b
 refine ⟨I,O,sv,g1,b1,T,?_,k1,k2,k3⟩
 have hd' : d=.agg [.lit (.int .i64 I),.lit (.int .i64 O),x2.1]:=congrArg Prod.fst hd
 subst hd'
 have hm0:m≠0:=by rintro rfl; simp [DataW.trod] at h0
 obtain ⟨N,rfl⟩ : ∃ M,N=M+2:=⟨N - 2,by omega⟩
 have e2' : mkD Tryz.prog noTok (N+1) 36 x2.1 ⟨.fn g,b⟩=some ([sv],⟨.fn g1,b1⟩):=e2
 have i1:∀ k:Int,mkD (Hh:=H) Tryz.prog noTok (N+1) 3 (.lit (.int .i64 k)) ⟨.fn g,b⟩=some ([.lit (.int .i64 k)],⟨.fn g,b⟩):=by
  intro k; unfold mkD; rw [Tryz.underlying3]
 unfold mkD
 rw [Tryz.underlying44]
 dsimp only
 simp only [mkF,i1,e2',c3,c36,c44]
 rfl
theorem calls_J {W:World} {v0 v1:Value} {d0 d1:DataW H} {p0 p1:List MemPlace} {base:Nat} (hL:W.ShapedOpen Tryz.prog) (h0:DataW.Trod enc Tryz.prog W 0 (fun _=>true) true 44 v0 d0 p0) (h1:DataW.Trod enc Tryz.prog W 0 (fun _=>true) true 57 v1 d1 p1) (k0:Value.okWide Tryz.prog W .any base 44 v0) (k1:Value.okWide Tryz.prog W .any base 57 v1) :
  Calls Tryz.prog 9 #[v0,v1] W fun e W'=>e=.returned (.bool true)∧Below W.heap.size W W':=by
 have c1:v1.cells.toList=[v1]:=okWide_cells k1 (by intro fs; rw [Tryz.underlying57]; simp) (by intro n e; rw [Tryz.underlying57]; simp)
 simp only [Value.okWide,Tryz.underlying44] at k0
 obtain ⟨cm,rfl,_⟩:=k0
 obtain ⟨f0,h0⟩:=h0
 obtain ⟨f1,h1⟩:=h1
 rw [c1] at h1
 obtain ⟨m,g,ρ,hg0,s,hno⟩:=start34 hL
 obtain ⟨I,O,tv,g1,n1,T,e1,t1,t2,t3⟩:=tree_mk f0 _ d0 p0 h0 f0 (Nat.le_refl _) g 3
 obtain ⟨ρ1,M1⟩:=mkD_sound (sp:=fun _=>true) (fun _=>rfl) (noTok_ok enc) f0 f0 44 _ d0 p0 ⟨.fn g,3⟩ _ _ ρ h0 (fun h=>by cases h) s hno e1
 obtain ⟨avs,g2,n2,w,e2,u1,u2,wv,rfl,u3,u4⟩:=word_mk f1 _ d1 p1 h1 f1 (Nat.le_refl _) g1 n1
 obtain ⟨ρ2,M2⟩:=mkD_sound (sp:=fun _=>true) (fun _=>rfl) (noTok_ok enc) f1 f1 57 _ d1 p1 ⟨.fn g1,n1⟩ _ _ ρ1 h1 (fun h=>by cases h) M1.sim M1.no e2
 have hv1:VR ρ2 wv v1:=by obtain ⟨_,_,e,h,_⟩:=M2.vals; cases e; exact h
 have hw:=tracesTrees_w I O T w m g2 n2 tv wv (TreeV.mono (let ⟨svs,a,b⟩:=t3; ⟨svs,a,b.1,b.2⟩) u1 u2) u3 (((u2 0 (by omega)).trans (t2 0 (by omega))).trans hg0) (by omega)
 refine (hw W.heap.size ρ2 #[.agg cm,v1] W M2.sim ?_).mono ?_
 ·exact ⟨_,_,rfl,⟨cm,rfl,M1.vals.mono (M2.sub M1.sim)⟩,_,_,rfl,hv1,rfl⟩
 ·rintro e W' ⟨r,rfl,hcp⟩
  cases e with
  | returned u=>obtain ⟨ρ',q1,q2,q3,q4⟩:=hcp; exact ⟨congrArg _ q3,q1.below⟩
  | _=>exact hcp.elim
end Go.Ai
end
section
namespace Go.Proofs.YtiddfilinnbhaaaGreatDoor
open Go Go.Ai Go.ChangeShapes Go.WideShapes Go.ChangeAt Go.RowKit
theorem own:ownKnob Tryz.prog.godebug=none:=by kernel_rfl
theorem laidOut:laidOutB Tryz.prog=true:=by kernel_rfl
noncomputable def door (os:Os) : World:=World.laidAll Tryz.prog os Rows.tracesCheckRow.laid
theorem door_met (os:Os) (args:Array Value) : laidMetH Tryz.prog Rows.tracesCheckRow.laid ((door os).forCall (fun _ _=>0) ⟨#[],args,[]⟩).memory:=by
 rw [MakeChecks.laidMetH_plain _ _ _ (by kernel_rfl)]
 exact laidMet_laidAll _ (by kernel_rfl) (by kernel_rfl)
end Go.Proofs.YtiddfilinnbhaaaGreatDoor
end
