/- amblelaw08.GaitUnrolls: whatever the input, the call returns true; each argument reads afterwards as it did. No condition. (The frame was written by the kit's proof-skeleton.) -/
import Derived.Test.YtlgjakpoaelehaaGreatRows
import Derived.WalkKit
import Derived.ProofKit
import Derived.OpenShut
import Derived.ShutString
import Derived.ChangeOld
import Derived.Below
import Derived.Test.YtlgjakpoaelehaaGreatSB25
import Derived.Test.YtlgjakpoaelehaaGreatSE04
import Derived.Test.YtlgjakpoaelehaaGreatSE05
namespace Go.Proofs.YtlgjakpoaelehaaGreat.gaitUnrolls
open Go.ChangeShapes Go.WideShapes Go.ChangeAt Go.RowKit
open Go.ChangeMaps (open_string shut_string)
set_option linter.unusedVariables false
theorem own : ownKnob Tryz.prog.godebug = none := by kernel_rfl
theorem laidOut : laidOutB Tryz.prog = true := by kernel_rfl
theorem walk {T : TypeId} (a0 : Option Addr) (len0 cap0 : Nat) (l : List D4.SpotD) (bx bz : D4.NumD) (a2 : Int) (w : World) (hl : l.length = len0) (hsp : D4.SpotsV T w a0 l) (ox : D4.NumOk bx) (oz : D4.NumOk bz) :
    Calls Tryz.prog 9 #[.slice a0 len0 cap0, .agg #[.int .i64 bx.n, .int .i64 bx.d, .int .u8 bx.p, .int .i64 bz.n, .int .i64 bz.d, .int .u8 bz.p], .int .i64 a2] w fun e w' => e = .returned (.bool true) ∧ Below w.heap.size w w' := by
  subst hl
  by_cases h : 70 < l.length
  · exact (D4.unrolls_long wakes_ok h rfl).mono fun e w' h => ⟨h.1, h.2.toBelow⟩
  · exact (D4.unrolls_c wakes_ok hsp ox oz (by omega)).mono fun e w' h => ⟨h.1, h.2.toBelow⟩
set_option maxRecDepth 100000 in
theorem lifted (os : Os) (started : os.Started) (H : Type) (enc : TypeId × Value → H) :
    ReturnsInHanded {} Tryz.checked os 9 .any (Rows.gaitUnrollsSpec.pre6 enc Tryz.prog Tryz.f9 Rows.gaitUnrollsRow.domain false) (Rows.gaitUnrollsSpec.post enc Tryz.prog Tryz.f9 false true false false) := by
  refine returnsInHanded_of_change (C := Tryz.checked) own started (by kernel_rfl) Tryz.func9
    (ChangeSpec.witness6 (enc := enc) (C := Tryz.checked) false ⟨#[], #[.slice none 0 0, .agg #[.int .i64 0, .int .i64 0, .int .u8 0, .int .i64 0, .int .i64 0, .int .u8 0], .int .i64 0], []⟩ 8 (by kernel_rfl) (by kernel_rfl) (by kernel_rfl) (by kernel_rfl)) ?_
  intro W base args ds gs before hval0 hW hcnd _
  have hval : ∀ (j : Nat) t v, Tryz.f9.params[j]? = some t → args[j]? = some v → Value.okWide Tryz.prog W .any base t v := hval0
  have hW' := hW
  obtain ⟨p, q, hA0, hV, rfl, hfz, hnd⟩ := hW
  have hA : DataW.TrodAll enc Tryz.prog W 0 (fun _ => true) true Tryz.f9.params.toList args.toList ds p := hA0
  rw [Tryz.params9] at hA hval
  obtain ⟨v0, vs0, d0, ds0, p0, q0, hargs, rfl, rfl, h0, r0⟩ := trodAll_cons hA
  obtain ⟨v1, vs1, d1, ds1, p1, q1, rfl, rfl, rfl, h1, r1⟩ := trodAll_cons r0
  obtain ⟨v2, vs2, d2, ds2, p2, q2, rfl, rfl, rfl, h2, r2⟩ := trodAll_cons r1
  obtain ⟨rfl, rfl, rfl⟩ := trodAll_nil r2
  obtain rfl : args = #[v0, v1, v2] := by cases args; simp_all
  obtain ⟨rfl, rfl⟩ := trodVars_none hV
  obtain ⟨a0, len0, cap0, rfl⟩ := okWide_slice Tryz.underlying22 (hval 0 22 v0 rfl rfl)
  have k0 := h0
  have lt0 : ∀ x ∈ p0, x.block < W.heap.size := by obtain ⟨m, hm⟩ := k0; exact DataW.trod_lt m _ _ _ hm
  obtain ⟨-, T, l, hl, hsp⟩ : len0 ≤ maxLen ∧ ∃ (T : TypeId) (l : List D4.SpotD), l.length = len0 ∧ D4.SpotsV T W a0 l := by
    obtain ⟨fuel, hf⟩ := h0
    exact D4.spots_trod (cap := cap0) hf
  obtain ⟨cs1, rfl, hsz⟩ := okWide_struct Tryz.underlying74 (hval 1 74 v1 rfl rfl)
  have k1 := h1
  have lt1 : ∀ x ∈ p1, x.block < W.heap.size := by obtain ⟨m, hm⟩ := k1; exact DataW.trod_lt m _ _ _ hm
  obtain ⟨bx, bz, ox, oz, rfl⟩ : ∃ bx bz : D4.NumD, D4.NumOk bx ∧ D4.NumOk bz ∧ cs1 = #[.int .i64 bx.n, .int .i64 bx.d, .int .u8 bx.p, .int .i64 bz.n, .int .i64 bz.d, .int .u8 bz.p] := by
    obtain ⟨fuel, hf⟩ := h1
    obtain ⟨bx, bz, ox, oz, e⟩ := D4.spot1_trod hf
    obtain ⟨l1⟩ := cs1
    have e' : l1 = _ := e
    exact ⟨bx, bz, ox, oz, by rw [e']⟩
  obtain ⟨a2, rfl, rfl, rfl, w2⟩ := open_int Tryz.underlying3 (hval 2 3 v2 rfl rfl) h2
  clear hA0 hval0
  refine (walk a0 len0 cap0 l bx bz a2 W hl hsp ox oz).mono fun e W' ⟨he, bel⟩ => ?_
  subst he
  exact ⟨_, rfl, _, _, _, [], _, [], hW', trodAll_mk1 (shut_bool Tryz.underlying4 _), (trodAll_cons_mk (Below.trod laidOut (by kernel_rfl) (of_decide_eq_true (by kernel_rfl)) k0 bel lt0) (trodAll_cons_mk (Below.trod laidOut (by kernel_rfl) (of_decide_eq_true (by kernel_rfl)) k1 bel lt1) (trodAll_cons_mk (shut_int Tryz.underlying3 w2) trodAll_mk0))), rfl, bel.frame _, fun h => by cases h⟩
theorem over : Rows.gaitUnrollsRow.holds Tryz.pinned (OpenSpec.ofChange Rows.gaitUnrollsSpec) :=
  OpenClaim.holds_of_wide 9 Tryz.f9 rfl rfl rfl rfl rfl rfl rfl ⟨rfl, rfl, rfl, rfl, rfl⟩ rfl rfl rfl rfl rfl (by kernel_rfl) Tryz.func9 (by kernel_rfl)
    (of_decide_eq_true (by kernel_rfl)) (by unfold Func.isWrapper; first | (rw [if_pos (by decide +kernel)]; kernel_rfl) | (rw [if_neg (by decide +kernel)]; exact ⟨rfl, rfl⟩))
    (fun os started H enc _ => lifted os started H enc)
theorem proved : Rows.GaitUnrollsSaid := over
end Go.Proofs.YtlgjakpoaelehaaGreat.gaitUnrolls
