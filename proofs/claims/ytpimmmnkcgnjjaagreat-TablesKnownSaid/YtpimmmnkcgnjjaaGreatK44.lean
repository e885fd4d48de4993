/- TablesKnown OF CHAPTER 36 HOLDS: the call returns true. No condition. -/
import Derived.Test.YtpimmmnkcgnjjaaGreatRows
import Derived.WalkKit
import Derived.ProofKit
import Derived.OpenShut
import Derived.Deep.DeepHandedRow
import Derived.LaidOnce
import Derived.Test.YtpimmmnkcgnjjaaGreatK43
set_option linter.all false
namespace Go.Ai
end Go.Ai
section
namespace Go.Proofs.YtpimmmnkcgnjjaaGreat
open Go Go.Ai Go.ChangeShapes Go.WideShapes Go.ChangeAt Go.RowKit
theorem own:ownKnob Tryz.prog.godebug=none:=by kernel_rfl
theorem laidNone (W:World) : laidMetH Tryz.prog [] W:=⟨[],rfl,List.nodup_nil,fun _ _ h=>nomatch h⟩
set_option maxRecDepth 100000 in
theorem liftedK (os:Os) (started:os.Started) (H:Type) (enc:TypeId×Value→H) :
  ReturnsInHanded {} Tryz.checked os 11 .any (Rows.tablesKnownSpec.pre6 enc Tryz.prog Tryz.f11 Rows.tablesKnownRow.domain false) (Rows.tablesKnownSpec.post enc Tryz.prog Tryz.f11 false true false false):=by
 refine returnsInHanded_of_change (C:=Tryz.checked) own started (by kernel_rfl) Tryz.func11
  (ChangeSpec.witness6 (enc:=enc) (C:=Tryz.checked) false ⟨#[],#[],[]⟩ 8 (by kernel_rfl) (by kernel_rfl) (by kernel_rfl) (by kernel_rfl)) ?_
 intro W base args ds gs before hval0 hW hcnd _
 have hW':=hW
 obtain ⟨p,q,hA0,hV,rfl,hfz,hnd⟩:=hW
 have hA:DataW.TrodAll enc Tryz.prog W 0 (fun _=>true) true Tryz.f11.params.toList args.toList ds p:=hA0
 rw [Tryz.params11] at hA
 obtain ⟨rfl,rfl,rfl⟩:=trodAll_none hA
 obtain ⟨rfl,rfl⟩:=trodVars_none hV
 clear hA0
 refine (e5q (laidNone W)).mono fun e W' ⟨he,hB⟩=>?_
 subst he
 simp only [List.append_nil] at hW'
 exact ⟨_,rfl,d8h (pa:=[]) (pv:=[]) hW' (fun _ _ _=>trodAll_cons_mk (shut_bool Tryz.underlying4 _) trodAll_mk0) (fun sp hsp=>trodAll_mk0) (fun _ _=>rfl) (by simp) hB (ok_one (by kernel_rfl) rfl (okWide_bool_mk Tryz.underlying4 _))⟩
theorem overK:Rows.tablesKnownRow.holds Tryz.pinned (OpenSpec.ofChange Rows.tablesKnownSpec) :=
 OpenClaim.holds_of_wide 11 Tryz.f11 rfl rfl rfl rfl rfl rfl rfl ⟨rfl,rfl,rfl,rfl,rfl⟩ rfl rfl rfl rfl rfl (by kernel_rfl) Tryz.func11 (by kernel_rfl)
  (of_decide_eq_true (by kernel_rfl)) (by unfold Func.isWrapper; first | (rw [if_pos (by decide +kernel)]; kernel_rfl) | (rw [if_neg (by decide +kernel)]; exact ⟨rfl,rfl⟩))
  (fun os started H enc _=>liftedK os started H enc)
theorem tablesKnown_holds:Rows.TablesKnownSaid:=overK
end Go.Proofs.YtpimmmnkcgnjjaaGreat
end
