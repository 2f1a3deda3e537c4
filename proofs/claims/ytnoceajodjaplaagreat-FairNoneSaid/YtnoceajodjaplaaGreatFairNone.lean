import Derived.Test.YtnoceajodjaplaaGreatCrc
import Derived.Test.YtnoceajodjaplaaGreatL35
import Derived.Test.YtnoceajodjaplaaGreatTd
import Derived.Test.YtnoceajodjaplaaGreatRows
import Derived.WalkKit
import Derived.ProofKit
import Derived.OpenShut
/- Law 35, FairNone: for every number, a world that no call made is never at rest, and its round and its settling say so: the law returns true, and nothing that stood is changed. No condition. -/
namespace Go.Tw.A
open Go Go.Tw Go.Proofs
def sTrue : List AV → Heap → (AV → Heap → Prop) → Prop := fun args h Kc => match args with
  | [] => Kc (.bool true) h
  | _ => False
noncomputable def sp3 : Specs Prop := Specs.add sp2 10 sTrue
abbrev yes : Prop := AV.bool true = AV.bool true
abbrev part (b : Bool) (x y : Prop) : Prop := Alg.prop.br b (fun _ => x) (fun _ => y)
theorem none0 (n : Int) : call Alg.prop Tryz.prog false sp3 100000 3 [.i .i64 n] ⟨0, .nil⟩ (fun v _ => v = .bool true) =
   part (decide ((0 : Int) < n)) (part (decide ((0 : Int) < n)) yes yes) (part (decide ((0 : Int) < n)) yes yes) := by kernel_rfl
end Go.Tw.A

namespace Go.Tw.A
open Go Go.Tw Go.Proofs
theorem sp3_ok : SpOk Tryz.prog sp3 := by
  refine sp2_ok.add (by kernel_rfl) ?_
  intro args h Kc hs K w vs hR ha
  unfold sTrue at hs
  split at hs
  · exact Runs.pure good sp2_ok (Runs.of lives35 rfl) rfl rfl hR ha hs
  · exact hs.elim
theorem none1 (n : Int) : Runs Tryz.prog sp3 false 100000 3 [.i .i64 n] ⟨0, .nil⟩ (fun v _ => v = .bool true) := by
  refine Runs.of (none0 n) ?_
  cases decide ((0 : Int) < n) <;> rfl
end Go.Tw.A

/-
  THE SHELL OF A PROOF OF 'Rows.FairNoneSaid' ('twain/twainlaw35.FairNone'), WRITTEN BY PROGRAM (proof-skeleton.mjs) off the guide's own print for that function. Not trusted: Lean checks it.
-/
namespace Go.Proofs.YtnoceajodjaplaaGreat.fairNone
open Go.ChangeShapes Go.WideShapes Go.ChangeAt Go.RowKit Go.Tw Go.Tw.A
set_option linter.unusedVariables false      -- a walk need not use every 'w<i>' (that an integer argument fits its kind)

theorem own : ownKnob Tryz.prog.godebug = none := by kernel_rfl

theorem walk (a0 : Int) (w : World) : Calls Tryz.prog 3 #[.int .i64 a0] w fun e w' => e = .returned (.bool true) ∧ Below w.heap.size w w' :=
  (none1 a0).law good sp3_ok (R.start w) ⟨_, _, rfl, rfl, rfl⟩

/-! ### THE ROW's STEP: WRITTEN OUT: LEAVE IT -/
set_option maxHeartbeats 4000000 in
set_option maxRecDepth 100000 in
theorem lifted (os : Os) (started : os.Started) (H : Type) (enc : TypeId × Value → H) :
    ReturnsInHanded {} Tryz.checked os 3 .any (Rows.fairNoneSpec.pre6 enc Tryz.prog Tryz.f3 Rows.fairNoneRow.domain false) (Rows.fairNoneSpec.post enc Tryz.prog Tryz.f3 false true false false) := by
  refine returnsInHanded_of_change (C := Tryz.checked) own started (by as_aux_lemma => kernel_rfl) Tryz.func3
    (ChangeSpec.witness6 (enc := enc) (C := Tryz.checked) false ⟨#[], #[.int .i64 0], []⟩ 8 (by as_aux_lemma => kernel_rfl) (by as_aux_lemma => kernel_rfl) (by as_aux_lemma => kernel_rfl) (by as_aux_lemma => kernel_rfl)) ?_
  intro W base args ds gs before hval0 hW hcnd _
  have hval : ∀ (j : Nat) t v, Tryz.f3.params[j]? = some t → args[j]? = some v → Value.okWide Tryz.prog W .any base t v := hval0
  have hW' := hW
  obtain ⟨p, q, hA0, hV, rfl, hfz, hnd⟩ := hW
  have hA : DataW.TrodAll enc Tryz.prog W 0 (fun _ => true) true Tryz.f3.params.toList args.toList ds p := hA0
  rw [Tryz.params3] at hA hval
  obtain ⟨v0, vs0, d0, ds0, p0, q0, hargs, rfl, rfl, h0, r0⟩ := trodAll_cons hA
  obtain ⟨rfl, rfl, rfl⟩ := trodAll_nil r0
  obtain rfl : args = #[v0] := by cases args; simp_all
  obtain ⟨rfl, rfl⟩ := trodVars_none hV
  obtain ⟨a0, rfl, rfl, rfl, w0⟩ := open_int Tryz.underlying3 (hval 0 3 v0 rfl rfl) h0
  clear hA0 hval0
  simp only [List.append_nil] at hW'
  refine (walk a0 W).mono fun e W' ⟨he, hg⟩ => ?_
  subst he
  exact ⟨_, rfl, post_of_below (pa := []) (pv := []) hW' (fun _ _ _ => (trodAll_cons_mk (shut_bool Tryz.underlying4 _) trodAll_mk0)) (fun sp _ => (trodAll_cons_mk (shut_int Tryz.underlying3 w0) trodAll_mk0)) (fun _ _ => rfl) rfl
    hg (ok_one (by as_aux_lemma => kernel_rfl) rfl (okWide_bool_mk Tryz.underlying4 _))⟩

set_option maxHeartbeats 4000000 in
theorem over : Rows.fairNoneRow.holds Tryz.pinned (OpenSpec.ofChange Rows.fairNoneSpec) :=
  OpenClaim.holds_of_wide 3 Tryz.f3 rfl rfl rfl rfl rfl rfl rfl ⟨rfl, rfl, rfl, rfl, rfl⟩ rfl rfl rfl rfl rfl (by as_aux_lemma => kernel_rfl) Tryz.func3 (joined_of
    (by as_aux_lemma => kernel_rfl)
    (by as_aux_lemma => kernel_rfl)
    (by as_aux_lemma => kernel_rfl)
    (by as_aux_lemma => kernel_rfl)
    (by as_aux_lemma => kernel_rfl)
    (by as_aux_lemma => kernel_rfl)
    (by as_aux_lemma => kernel_rfl)
    (by as_aux_lemma => kernel_rfl)
    (by as_aux_lemma => kernel_rfl)
    (by as_aux_lemma => kernel_rfl)
    (by as_aux_lemma => kernel_rfl)
    (by as_aux_lemma => kernel_rfl)
    (by as_aux_lemma => kernel_rfl)
    (by as_aux_lemma => kernel_rfl)
    (by as_aux_lemma => kernel_rfl)
    (by as_aux_lemma => kernel_rfl)
    (by as_aux_lemma => kernel_rfl)
    (by as_aux_lemma => kernel_rfl)
    (by as_aux_lemma => kernel_rfl)
    (by as_aux_lemma => kernel_rfl)
    (by as_aux_lemma => kernel_rfl)
    (by as_aux_lemma => kernel_rfl)
    (by as_aux_lemma => kernel_rfl)
    (by as_aux_lemma => kernel_rfl)
    (by as_aux_lemma => kernel_rfl)
    (by as_aux_lemma => kernel_rfl)
    (by as_aux_lemma => kernel_rfl)
    (by as_aux_lemma => kernel_rfl)
    (by as_aux_lemma => kernel_rfl)
    (by as_aux_lemma => kernel_rfl)
    (by as_aux_lemma => kernel_rfl)
    (by as_aux_lemma => kernel_rfl))
    (of_decide_eq_true (by as_aux_lemma => kernel_rfl)) (by as_aux_lemma => (unfold Func.isWrapper; first | (rw [if_pos (by decide +kernel)]; kernel_rfl) | (rw [if_neg (by decide +kernel)]; exact ⟨rfl, rfl⟩)))
    (fun os started H enc _ => lifted os started H enc)

/-- ████ THE STATEMENT ████ -/
theorem proved : Rows.FairNoneSaid :=
  over
end Go.Proofs.YtnoceajodjaplaaGreat.fairNone
