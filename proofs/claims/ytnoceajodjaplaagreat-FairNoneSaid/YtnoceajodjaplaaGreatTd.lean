import Derived.Test.YtnoceajodjaplaaGreatTc
import Derived.Orders
import Derived.Below
import Derived.ChangeSame
import Derived.JoinedOf
/- Regions whose order is open, known calls, and how a run proves a law; no condition. -/
/- What an operation reckons: it looks at its operands alone, and its answer is one. -/
namespace Go.Tw
open Go

section congr
variable {ρ : Type} {A : Alg ρ} {P : Program} {cl : Bool} {e e' : Operand → AV}

theorem args_congr {c : Go.Call} (h : ∀ x ∈ c.operands, e x = e' x) : c.args.toList.map e = c.args.toList.map e' :=
  List.map_congr_left fun x hx => h x (by unfold Call.operands; exact Array.mem_append.2 (.inr (Array.mem_toList_iff.1 hx)))

theorem parts_congr {ps : Array (Nat × Operand)} (h : ∀ x ∈ (ps.toList.map (·.2)).toArray, e x = e' x) : (ps.toList.map fun (i, x) => (i, e x)) = ps.toList.map fun (i, x) => (i, e' x) :=
  List.map_congr_left fun p hp => by
    obtain ⟨i, x⟩ := p
    have : e x = e' x := h x (by simp only [List.mem_toArray, List.mem_map]; exact ⟨(i, x), hp, rfl⟩)
    simp only [this]

theorem pureK_congr {o : Op} (h : ∀ x ∈ o.operands, e x = e' x) (K : AV → ρ) : pureK A P cl e o K = pureK A P cl e' o K := by
  cases o
  case build t ps => simp only [pureK, parts_congr (ps := ps) h]
  case call c => simp only [pureK, args_congr (c := c) h]
  case makeFunc fn first cap =>
    have h1 : first.toList.map e = first.toList.map e' := List.map_congr_left fun x hx => h x (Array.mem_append.2 (.inl (Array.mem_toList_iff.1 hx)))
    have h2 : cap.toList.map e = cap.toList.map e' := List.map_congr_left fun x hx => h x (Array.mem_append.2 (.inr (Array.mem_toList_iff.1 hx)))
    cases fn <;> simp only [pureK, h1, h2]
  case slice t x lo hi mx =>
    have hx : e x = e' x := h x (by simp [Op.operands])
    have h1 : lo.map e = lo.map e' := by cases lo with | none => rfl | some y => exact congrArg some (h y (by simp [Op.operands]))
    have h2 : hi.map e = hi.map e' := by cases hi with | none => rfl | some y => exact congrArg some (h y (by simp [Op.operands]))
    have h3 : mx.map e = mx.map e' := by cases mx with | none => rfl | some y => exact congrArg some (h y (by simp [Op.operands]))
    simp only [pureK, hx, h1, h2, h3]
  all_goals first
    | rfl
    | (have h1 := h _ (Array.mem_singleton.2 rfl); simp only [pureK, h1])
    | (simp only [Op.operands, List.mem_toArray, List.mem_cons, List.not_mem_nil, or_false, forall_eq_or_imp, forall_eq] at h; simp only [pureK, h])

theorem readK_congr {o : Op} {hp : Heap} (h : ∀ x ∈ o.operands, e x = e' x) (K : AV → ρ) : readK A P hp e o K = readK A P hp e' o K := by
  cases o
  case call c => simp only [readK, args_congr (c := c) h]
  all_goals first
    | rfl
    | (have h1 := h _ (Array.mem_singleton.2 rfl); simp only [readK, h1])
    | (simp only [Op.operands, List.mem_toArray, List.mem_cons, List.not_mem_nil, or_false, forall_eq_or_imp, forall_eq] at h; simp only [readK, h])

theorem actK_congr {o : Oper} {hp : Heap} (h : ∀ x ∈ o.op.operands, e x = e' x) (K : AV → Heap → ρ) : actK A P cl hp e o K = actK A P cl hp e' o K := by
  obtain ⟨dst, op, type, pos, after, guard⟩ := o
  cases op
  case call c => simp only [actK, args_congr (c := c) h]
  case buildSlice t n ps => simp only [actK, parts_congr (ps := ps) h]
  case makeMap t r => cases r <;> rfl
  all_goals first
    | rfl
    | (have h1 := h _ (Array.mem_singleton.2 rfl); simp only [actK, h1])
    | (simp only [Op.operands, List.mem_toArray, List.mem_cons, List.not_mem_nil, or_false, forall_eq_or_imp, forall_eq] at h; simp only [actK, h])

theorem actsK_congr {sp : FuncId → Option (List AV → Heap → (AV → Heap → ρ) → ρ)} {call : Call ρ} {T T' : List AV} {o : Oper} {hp : Heap} (h : ∀ x ∈ o.op.operands, evalO T x = evalO T' x) (K : AV → Heap → ρ) :
    actsK A P cl sp call T hp o K = actsK A P cl sp call T' hp o K := by
  have h0 := actK_congr (A := A) (P := P) (cl := cl) (hp := hp) h K
  unfold actsK
  split
  · rename_i c hc
    unfold callOpK
    split
    · rename_i f hf
      have hf' : evalO T f = evalO T' f := h f (by rw [hc]; show f ∈ c.operands; unfold Call.operands; rw [hf]; simp)
      rw [hf', args_congr (e := evalO T) (e' := evalO T') (c := c) (by rw [hc] at h; exact h)]
    · exact h0
    · rfl
  · exact h0
end congr

/-- A run with one answer. -/
def Det {α : Type} (F : (α → Prop) → Prop) : Prop := ∀ Q, F Q → ∃ x, Q x ∧ ∀ Q', Q' x → F Q'

namespace Det
variable {α β : Type} {F G : (α → Prop) → Prop}
theorem ret (v : α) : Det (fun Q => Q v) := fun Q h => ⟨v, h, fun _ h => h⟩
theorem fail (n : Nat) : Det (fun _ : α → Prop => Alg.prop.fail n) := fun _ h => h.elim
theorem br {b : Bool} (f : Det F) (g : Det G) : Det (fun Q => Alg.prop.br b (fun _ => F Q) (fun _ => G Q)) := by cases b <;> assumption
theorem bind {E : (β → Prop) → Prop} {F : β → (α → Prop) → Prop} (h : Det E) (k : ∀ x, Det (F x)) : Det (fun Q => E fun x => F x Q) := fun Q hq => by
  obtain ⟨x, hx, hE⟩ := h _ hq
  obtain ⟨y, hy, hF⟩ := k x _ hx
  exact ⟨y, hy, fun Q' h' => hE _ (hF _ h')⟩
theorem ite {p : Prop} [Decidable p] (f : p → Det F) (g : ¬ p → Det G) : Det (fun Q => if p then F Q else G Q) := by
  by_cases hp : p
  · simpa only [if_pos hp] using f hp
  · simpa only [if_neg hp] using g hp
theorem dite {p : Prop} [Decidable p] {F : p → (α → Prop) → Prop} (f : ∀ h, Det (F h)) (g : Det G) : Det (fun Q => if h : p then F h Q else G Q) := by
  by_cases hp : p
  · simpa only [dif_pos hp] using f hp
  · simpa only [dif_neg hp] using g
theorem same {cl : Bool} {x y : Int} (f : Det F) : Det (fun Q => sameK Alg.prop cl x y (F Q)) := by
  cases cl
  · intro Q h
    obtain ⟨v, hv, hF⟩ := f Q h.2
    exact ⟨v, hv, fun Q' h' => ⟨h.1, hF Q' h'⟩⟩
  · exact br f (fail 1)
theorem at_ {Q : α → Prop} (d : Det F) (h : F Q) : ∃ x, Q x ∧ ∀ Q', Q' x → F Q' := d Q h
end Det

section pure
variable {P : Program} {cl : Bool}

theorem det_intK {v : AV} : Det (intK Alg.prop v) := by cases v <;> first | exact Det.ret _ | exact Det.fail _

theorem det_iopK {op : BinOp} {k : IntKind} {x y : Int} : Det (iopK Alg.prop op k x y) := by
  cases op <;> first | exact Det.ret _ | exact Det.fail _ | exact Det.br (Det.fail _) (Det.ret _)

theorem det_uopK {op : BinOp} {k : IntKind} {x y : BitVec k.bits} : Det (uopK Alg.prop op k x y) := by
  cases op <;> first | exact Det.ret _ | exact Det.fail _ | exact Det.br (Det.fail _) (Det.ret _)

theorem det_shiftK {op : BinOp} {x : AV} {y : Int} : Det (shiftK Alg.prop op x y) := by
  refine Det.br (F := fun _ => Alg.prop.fail 6) (Det.fail _) ?_
  intro Q h
  split at h
  · exact ⟨_, h, fun _ h' => h'⟩
  · exact ⟨_, h, fun _ h' => h'⟩
  · rename_i k x
    split at h
    · rename_i hs; exact ⟨_, h, fun _ h' => by simpa only [hs] using h'⟩
    · exact h.elim
  · rename_i k x
    split at h
    · rename_i hs; exact ⟨_, h, fun _ h' => by simpa only [hs] using h'⟩
    · exact h.elim
  · exact h.elim

theorem det_eqK {t : TypeId} {x y : AV} : Det (eqK Alg.prop P t x y) := by
  intro Q h
  unfold eqK at h ⊢
  generalize P.underlying t = d at h ⊢
  split at h
  all_goals try exact ⟨_, h, fun _ h' => h'⟩
  all_goals try exact h.elim
  all_goals
    split at h
    · exact h.elim
    · rename_i hg
      split at h
      · rename_i b hb
        exact ⟨_, h, fun _ h' => by first | exact h' | (simp only [hg, hb]; exact h')⟩
      · exact h.elim

theorem det_strK {op : BinOp} {a b : List B8} : Det (strK Alg.prop op a b) := by
  cases op <;> first | exact Det.ret _ | exact Det.fail _ | exact Det.br (Det.ret _) (Det.fail _)

theorem det_eqnK {op : BinOp} {t : TypeId} {x y : AV} : Det (eqnK Alg.prop P op t x y) := by
  cases op <;> first | exact Det.fail _ | exact Det.bind (E := eqK Alg.prop P t x y) (F := fun b Q => Q (AV.bool b)) det_eqK fun _ => Det.ret _ | exact Det.bind (E := eqK Alg.prop P t x y) (F := fun b Q => Q (AV.bool (!b))) det_eqK fun _ => Det.ret _

theorem det_uuK {op : BinOp} {k j : IntKind} {a : BitVec k.bits} {b : BitVec j.bits} : Det (uuK Alg.prop op k j a b) := by
  refine Det.dite (fun h => ?_) (Det.fail _)
  cases hs : k.signed
  · exact det_uopK
  · exact Det.fail _

theorem det_twoK {op : BinOp} {t : TypeId} {x y : AV} : Det (twoK Alg.prop P op t x y) := by
  intro Q h
  unfold twoK at h
  split at h
  · rename_i k a j b
    exact Det.at_ (F := fun K => if k = j then iopK Alg.prop op k a b K else Alg.prop.fail 12) (Det.ite (fun _ => det_iopK) fun _ => Det.fail _) h
  · rename_i k a j b
    exact Det.at_ (F := fun K => uuK Alg.prop op k j a b K) det_uuK h
  · rename_i a b
    exact Det.at_ (F := fun K => strK Alg.prop op a b K) det_strK h
  · rename_i n1 n2 n3
    obtain ⟨v, hv, hF⟩ := Det.at_ (F := fun K => eqnK Alg.prop P op t x y K) det_eqnK h
    refine ⟨v, hv, fun Q' h' => ?_⟩
    unfold twoK
    split
    · exact (n1 _ _ _ _ rfl rfl).elim
    · exact (n2 _ _ _ _ rfl rfl).elim
    · exact (n3 _ _ rfl rfl).elim
    · exact hF Q' h'

theorem det_binK {op : BinOp} {t : TypeId} {x y : AV} : Det (binK Alg.prop P op t x y) := by
  cases op <;> first | exact det_twoK | exact Det.bind (E := intK Alg.prop y) (F := fun n Q => shiftK Alg.prop .shl x n Q) det_intK fun _ => det_shiftK | exact Det.bind (E := intK Alg.prop y) (F := fun n Q => shiftK Alg.prop .shr x n Q) det_intK fun _ => det_shiftK

theorem det_unK {op : UnOp} {x : AV} : Det (unK Alg.prop op x) := by
  intro Q h
  unfold unK at h
  split at h
  · exact ⟨_, h, fun _ h' => h'⟩
  · split at h
    · rename_i hs; exact ⟨_, h, fun _ h' => by first | exact h' | (simp only [unK, hs]; exact h')⟩
    · exact h.elim
  · split at h
    · rename_i hs; exact ⟨_, h, fun _ h' => by first | exact h' | (simp only [unK, hs]; exact h')⟩
    · exact h.elim
  · split at h
    · rename_i hs; exact ⟨_, h, fun _ h' => by first | exact h' | (simp only [unK, hs]; exact h')⟩
    · exact h.elim
  · exact ⟨_, h, fun _ h' => h'⟩
  · exact h.elim

theorem det_convK {s d : TypeId} {x : AV} : Det (convK Alg.prop P s d x) := by
  intro Q h
  unfold convK at h ⊢
  generalize P.underlying s = ds at h ⊢
  generalize P.underlying d = dd at h ⊢
  split at h
  · exact h.elim
  · split at h
    · split at h
      · rename_i hs; exact ⟨_, h, fun _ h' => by first | exact h' | (simp only [hs, if_true]; exact h')⟩
      · rename_i hs; exact ⟨_, h, fun _ h' => by first | exact h' | (simp only [hs]; exact h')⟩
    · split at h
      · rename_i hs; exact ⟨_, h, fun _ h' => by first | exact h' | (simp only [hs, if_true]; exact h')⟩
      · rename_i hs; exact ⟨_, h, fun _ h' => by first | exact h' | (simp only [hs]; exact h')⟩
    · exact ⟨_, h, fun _ h' => h'⟩
    · exact h.elim

theorem det_boundK {x : Option AV} {d m : Nat} : Det (boundK Alg.prop x d m) := by
  cases x with
  | none => exact Det.ret _
  | some v => exact Det.bind (E := intK Alg.prop v) (F := fun n Q => Alg.prop.br (decide (0 ≤ n ∧ n ≤ (m : Int))) (fun _ => Q n.toNat) (fun _ => Alg.prop.fail 20)) det_intK fun n => Det.br (Det.ret _) (Det.fail _)

theorem det_partK {t : TypeId} {cs : List AV} {off : Nat} : Det (partK Alg.prop P t cs off) := by
  intro Q h
  unfold partK at h ⊢
  generalize isAggT P t = d1 at h ⊢
  generalize sizeT P t = d2 at h ⊢
  split at h
  · split at h
    · rename_i hr; exact ⟨_, h, fun _ h' => by first | exact h' | (simp only [hr]; exact h')⟩
    · exact h.elim
  · split at h
    · rename_i hr; exact ⟨_, h, fun _ h' => by first | exact h' | (simp only [hr]; exact h')⟩
    · exact h.elim
  · exact h.elim

theorem det_fieldAddrK {t : TypeId} {x : AV} {f : Nat} : Det (fieldAddrK Alg.prop P t x f) := by
  intro Q h
  unfold fieldAddrK at h ⊢
  generalize P.underlying t = d at h ⊢
  split at h
  rotate_left
  · exact h.elim
  split at h
  rotate_left
  · exact h.elim
  rename_i hfd
  split at h
  rotate_left
  · exact h.elim
  rename_i hsz
  split at h
  all_goals first | exact h.elim | exact ⟨_, h, fun _ h' => by first | exact h' | (simp only [hfd, hsz]; exact h')⟩

theorem det_fieldK {t : TypeId} {x : AV} {f : Nat} : Det (fieldK Alg.prop P t x f) := by
  intro Q h
  unfold fieldK at h ⊢
  generalize P.underlying t = d at h ⊢
  split at h
  rotate_left
  · exact h.elim
  split at h
  rotate_left
  · exact h.elim
  rename_i hfd
  obtain ⟨v, hv, hF⟩ := det_partK.at_ h
  exact ⟨v, hv, fun _ h' => by first | exact hF _ h' | (simp only [hfd]; exact hF _ h')⟩

theorem det_indexAddrK {t : TypeId} {x ix : AV} : Det (indexAddrK Alg.prop P t x ix) := by
  unfold indexAddrK
  refine Det.bind (E := intK Alg.prop ix) det_intK fun i => ?_
  intro Q h
  generalize P.underlying t = d at h ⊢
  split at h
  rotate_right
  · exact h.elim
  all_goals
    split at h
    rotate_left
    · exact h.elim
    rename_i hsz
  · obtain ⟨v, hv, hF⟩ := (Det.br (Det.ret _) (Det.fail _)).at_ h
    exact ⟨v, hv, fun _ h' => by first | exact hF _ h' | (simp only [hsz]; exact hF _ h')⟩
  all_goals
    split at h
    rotate_left
    · exact h.elim
    rename_i hz
    obtain ⟨v, hv, hF⟩ := (Det.br (Det.ret _) (Det.fail _)).at_ h
    exact ⟨v, hv, fun _ h' => by first | exact hF _ h' | (simp only [hsz, hz, if_true]; exact hF _ h')⟩

theorem det_indexK {t : TypeId} {x ix : AV} : Det (indexK Alg.prop P t x ix) := by
  unfold indexK
  refine Det.bind (E := intK Alg.prop ix) det_intK fun i => ?_
  intro Q h
  generalize P.underlying t = d at h ⊢
  split at h
  · split at h
    rotate_left
    · exact h.elim
    rename_i hsz
    obtain ⟨v, hv, hF⟩ := (Det.br det_partK (Det.fail _)).at_ h
    exact ⟨v, hv, fun _ h' => by first | exact hF _ h' | (simp only [hsz]; exact hF _ h')⟩
  · exact (Det.br (Det.ret _) (Det.fail _)).at_ h
  · exact h.elim

theorem det_fillK {place : Nat → Option (Nat × Nat)} : ∀ {ps : List (Nat × AV)} {cs : List AV}, Det (fillK Alg.prop place cs ps)
  | [], cs => Det.ret _
  | (i, v) :: ps, cs => by
    intro Q h
    unfold fillK at h ⊢
    split at h
    · exact h.elim
    rename_i hp
    split at h
    rotate_left
    · exact h.elim
    rename_i hw
    split at h
    rotate_left
    · exact h.elim
    rename_i hs
    obtain ⟨v, hv, hF⟩ := det_fillK.at_ h
    exact ⟨v, hv, fun _ h' => by first | exact hF _ h' | (rw [if_pos hw]; exact hF _ h') | (simp only [hp, hs]; rw [if_pos hw]; exact hF _ h')⟩

theorem det_buildK {t : TypeId} {ps : List (Nat × AV)} : Det (buildK Alg.prop P t ps) := by
  intro Q h
  unfold buildK at h ⊢
  generalize zeroT P t = z at h ⊢
  generalize P.underlying t = d at h ⊢
  split at h
  · exact h.elim
  split at h
  · split at h
    rotate_left
    · exact h.elim
    rename_i hp
    obtain ⟨v, hv, hF⟩ := (Det.bind det_fillK fun _ => Det.ret _).at_ h
    exact ⟨v, hv, fun _ h' => by first | exact hF _ h' | (simp only [hp]; exact hF _ h')⟩
  · split at h
    rotate_left
    · exact h.elim
    rename_i hp
    obtain ⟨v, hv, hF⟩ := (Det.bind det_fillK fun _ => Det.ret _).at_ h
    exact ⟨v, hv, fun _ h' => by first | exact hF _ h' | (simp only [hp]; exact hF _ h')⟩
  · exact h.elim

theorem det_capK {t : TypeId} {x : AV} : Det (capK Alg.prop P t x) := by
  intro Q h
  unfold capK at h ⊢
  generalize P.underlying t = d at h ⊢
  split at h
  all_goals first | exact h.elim | exact ⟨_, h, fun _ h' => h'⟩

theorem det_lenK {t : TypeId} {x : AV} : Det (lenK Alg.prop P t x) := by
  intro Q h
  unfold lenK at h ⊢
  generalize P.underlying t = d at h ⊢
  split at h
  all_goals first | exact h.elim | exact ⟨_, h, fun _ h' => h'⟩ | (refine ⟨_, h, fun _ h' => ?_⟩; cases x <;> exact h')

theorem det_max2K {x y : AV} : Det (max2K Alg.prop x y) := by
  cases x <;> cases y <;> first | exact Det.fail _ | exact Det.ret _ | exact Det.dite (fun _ => Det.ret _) (Det.fail _)

theorem det_min2K {x y : AV} : Det (min2K Alg.prop x y) := by
  cases x <;> cases y <;> first | exact Det.fail _ | exact Det.ret _ | exact Det.dite (fun _ => Det.ret _) (Det.fail _)

theorem det_foldK {f : AV → AV → (AV → Prop) → Prop} (hf : ∀ x y, Det (f x y)) : ∀ {ys : List AV} {x : AV}, Det (foldK cl f x ys)
  | [], x => Det.ret _
  | y :: ys, x => by
    have : foldK cl f x (y :: ys) = fun K => f x y fun z => foldK cl f z ys K := by
      funext K; show (f x y fun z => fV cl z fun z => foldK cl f z ys K) = _; congr 1; funext z; rw [fV_eq]
    rw [this]
    exact Det.bind (hf x y) fun z => det_foldK hf

theorem det_arrayAtK {t : TypeId} {x : AV} : Det (arrayAtK Alg.prop P t x) := by
  intro Q h
  unfold arrayAtK at h ⊢
  generalize P.underlying t = d at h ⊢
  split at h
  rotate_left
  · exact h.elim
  rename_i n e
  generalize P.underlying e = d2 at h ⊢
  split at h
  rotate_left
  · exact h.elim
  split at h
  · exact (Det.br (Det.ret _) (Det.fail _)).at_ h
  · exact (Det.br (Det.ret _) (Det.fail _)).at_ h
  · exact h.elim

theorem det_sliceK {t : TypeId} {x : AV} {lo hi mx : Option AV} : Det (sliceK Alg.prop P cl t x lo hi mx) := by
  intro Q h
  unfold sliceK at h ⊢
  generalize P.underlying t = d at h ⊢
  split at h
  · -- an array
    split at h
    rotate_left
    · exact h.elim
    rename_i hsz
    obtain ⟨v, hv, hF⟩ := (Det.bind det_boundK fun _ => Det.bind det_boundK fun _ => Det.ret _).at_ h
    exact ⟨v, hv, fun _ h' => by first | exact hF _ h' | (simp only [hsz]; exact hF _ h')⟩
  · -- a text
    split at h
    rotate_left
    · exact h.elim
    obtain ⟨v, hv, hF⟩ := (Det.bind det_boundK fun _ => Det.bind det_boundK fun _ => Det.ret _).at_ h
    exact ⟨v, hv, fun _ h' => hF _ h'⟩
  · -- nil
    split at h
    · exact h.elim
    · exact h.elim
    rename_i n1 n2
    obtain ⟨v, hv, hF⟩ := (Det.bind det_boundK fun _ => Det.bind det_boundK fun _ => Det.bind det_boundK fun _ => Det.ret _).at_ h
    exact ⟨v, hv, fun _ h' => hF _ h'⟩
  · -- rows
    split at h
    rotate_left
    · exact h.elim
    rename_i hsz
    split at h
    rotate_left
    · exact h.elim
    rename_i hz
    cases mx with
    | none =>
      obtain ⟨v, hv, hF⟩ := (Det.bind det_boundK fun _ => Det.bind det_boundK fun _ => Det.ret _).at_ h
      exact ⟨v, hv, fun _ h' => by first | exact hF _ h' | (rw [if_pos hz]; exact hF _ h') | (simp only [hsz]; rw [if_pos hz]; exact hF _ h')⟩
    | some m =>
      cases hi with
      | none =>
        obtain ⟨v, hv, hF⟩ := (Det.bind det_boundK fun _ => Det.bind det_boundK fun _ => Det.fail _).at_ h
        exact ⟨v, hv, fun _ h' => by first | exact hF _ h' | (rw [if_pos hz]; exact hF _ h') | (simp only [hsz]; rw [if_pos hz]; exact hF _ h')⟩
      | some hi =>
        obtain ⟨v, hv, hF⟩ := (Det.bind det_boundK fun _ => Det.bind det_boundK fun _ => Det.bind det_intK fun _ => Det.same (Det.ret _)).at_ h
        exact ⟨v, hv, fun _ h' => by first | exact hF _ h' | (rw [if_pos hz]; exact hF _ h') | (simp only [hsz]; rw [if_pos hz]; exact hF _ h')⟩
  · -- cells
    split at h
    rotate_left
    · exact h.elim
    rename_i hsz
    split at h
    rotate_left
    · exact h.elim
    rename_i hz
    split at h
    rotate_left
    · exact h.elim
    obtain ⟨v, hv, hF⟩ := (Det.bind det_boundK fun _ => Det.bind det_boundK fun _ => Det.ite (fun _ => Det.ret _) fun _ => Det.fail _).at_ h
    exact ⟨v, hv, fun _ h' => by first | exact hF _ h' | (rw [if_pos hz]; exact hF _ h') | (simp only [hsz]; rw [if_pos hz]; exact hF _ h')⟩
  · -- plain
    rename_i e τ xs ex nn
    split at h
    rotate_left
    · exact h.elim
    rename_i hz
    cases mx with
    | none =>
      obtain ⟨v, hv, hF⟩ := (Det.bind det_boundK fun _ => Det.bind det_boundK fun _ => Det.ret _).at_ h
      exact ⟨v, hv, fun _ h' => by first | exact hF _ h' | (rw [if_pos hz]; exact hF _ h') | (simp only; rw [if_pos hz]; exact hF _ h')⟩
    | some m =>
      cases hi with
      | none =>
        obtain ⟨v, hv, hF⟩ := (Det.bind det_boundK fun _ => Det.bind det_boundK fun _ => Det.fail _).at_ h
        exact ⟨v, hv, fun _ h' => by first | exact hF _ h' | (rw [if_pos hz]; exact hF _ h') | (simp only; rw [if_pos hz]; exact hF _ h')⟩
      | some hi =>
        obtain ⟨v, hv, hF⟩ := (Det.bind det_boundK fun _ => Det.bind det_boundK fun _ => Det.bind det_intK fun _ => Det.same (Det.ret _)).at_ h
        exact ⟨v, hv, fun _ h' => by first | exact hF _ h' | (rw [if_pos hz]; exact hF _ h') | (simp only; rw [if_pos hz]; exact hF _ h')⟩
  · exact h.elim

theorem det_pureK {e : Operand → AV} {o : Op} : Det (pureK Alg.prop P cl e o) := by
  cases o
  case move x => exact Det.ret _
  case assign x => exact Det.ret _
  case pick c a b =>
    show Det fun K => match e c with | .bool c => Alg.prop.br c (fun _ => (K (e a))) (fun _ => (K (e b))) | _ => Alg.prop.fail 75
    cases e c <;> first | exact Det.fail _ | exact Det.br (Det.ret _) (Det.ret _)
  case nilCheck x =>
    intro Q h
    unfold pureK at h ⊢
    simp only at h ⊢
    generalize e x = v at h ⊢
    split at h
    all_goals first | exact h.elim | exact ⟨_, h, fun _ h' => h'⟩
  case binOp op t x y yt => exact det_binK
  case unOp op t x => exact det_unK
  case makeFunc fn first cap => cases fn <;> first | exact Det.ret _ | exact Det.fail _
  case slice t x lo hi mx => exact det_sliceK
  case fieldAddr t x f => exact det_fieldAddrK
  case field t x f => exact det_fieldK
  case indexAddr t x ix => exact det_indexAddrK
  case index t x ix => exact det_indexK
  case extract t ix =>
    intro Q h
    unfold pureK at h ⊢
    simp only at h ⊢
    generalize e t = v at h ⊢
    split at h
    rotate_left
    · exact h.elim
    split at h
    · rename_i hv; exact ⟨_, h, fun _ h' => by first | exact h' | (simp only [hv]; exact h')⟩
    · exact h.elim
  case build t ps => exact det_buildK
  case sliceToArrayPointer t x => exact det_arrayAtK
  case call c =>
    intro Q h
    unfold pureK at h ⊢
    simp only at h ⊢
    generalize c.callee = d1 at h ⊢
    generalize c.argTypes.toList = d2 at h ⊢
    generalize c.args.toList.map e = d3 at h ⊢
    split at h
    · exact (Det.bind det_capK fun _ => Det.ret _).at_ h
    · exact (det_foldK fun _ _ => det_max2K).at_ h
    · exact (det_foldK fun _ _ => det_min2K).at_ h
    · exact h.elim
  all_goals exact Det.fail _
end pure

section read
variable {P : Program} {cl : Bool}

theorem det_castD {τ τ' : Ty} {x : τ.den} : Det (castD Alg.prop τ τ' x) := Det.dite (fun _ => Det.ret _) (Det.fail _)

theorem det_rowsOf {τ : Ty} {h : Heap} {x : AV} : Det (rowsOf Alg.prop τ h x) := by
  cases x
  case nilsl => exact Det.ret _
  case imm σ xs ex nn => exact (det_castD (τ := .sl σ) (τ' := .sl τ) (x := xs))
  case slr id sz off len wh cap ex nn =>
    refine Det.ite (fun _ => ?_) fun _ => Det.fail _
    intro Q hq
    generalize h.get id = g at hq ⊢
    split at hq
    · rename_i σ ys
      have : Det fun K => castD Alg.prop (.sl σ) (.sl τ) ys fun (xs : List τ.den) => match wh with | true => K xs | false => K ((xs.drop off).take len) := by
        refine Det.bind (E := castD Alg.prop (.sl σ) (.sl τ) ys) (F := fun (xs : List τ.den) K => match wh with | true => K xs | false => K ((xs.drop off).take len)) det_castD fun xs => ?_
        cases wh <;> exact Det.ret _
      exact this.at_ hq
    · exact hq.elim
  case slc id cell sz len cap ex =>
    by_cases hsz : sz = 1
    · subst hsz
      show Det fun K => match h.get id with
        | some (.cells cs) => match dropC cs cell with
          | some (.barr m xs :: _) => if len ≤ m then castD Alg.prop (.sl (.u .u8)) (.sl τ) (xs.take len : List B8) K else Alg.prop.fail 84
          | _ => Alg.prop.fail 85
        | _ => Alg.prop.fail 86
      generalize h.get id = g
      cases g with
      | none => exact Det.fail _
      | some b =>
        cases b
        case cells cs =>
          simp only
          generalize dropC cs cell = dc
          cases dc with
          | none => exact Det.fail _
          | some l =>
            cases l with
            | nil => exact Det.fail _
            | cons c l =>
              cases c
              case barr m xs => exact Det.ite (fun _ => det_castD) fun _ => Det.fail _
              all_goals exact Det.fail _
        all_goals exact Det.fail _
    · intro Q hq
      unfold rowsOf at hq
      split at hq
      all_goals first
        | exact hq.elim
        | (rename_i heq; cases heq; exact absurd rfl hsz)
        | (rename_i heq; cases heq)
  all_goals exact Det.fail _

theorem det_loadK {h : Heap} {t : TypeId} {a : AV} : Det (loadK Alg.prop P h t a) := by
  cases a
  case ptr id off =>
    show Det fun K => match h.get id with | some (.cells cs) => partK Alg.prop P t cs off K | _ => Alg.prop.fail 88
    generalize h.get id = g
    cases g with
    | none => exact Det.fail _
    | some b => cases b <;> first | exact det_partK | exact Det.fail _
  case rptr id row sub =>
    intro Q hq
    unfold loadK at hq ⊢
    simp only at hq ⊢
    generalize h.get id = g at hq ⊢
    split at hq
    rotate_left
    · exact hq.elim
    rename_i τ xs
    cases hd : P.underlying t with
    | none => simp only [hd] at hq; exact det_partK.at_ hq
    | some d =>
      cases d
      case array n e =>
        simp only [hd] at hq
        cases τ
        case u k =>
          cases k
          case u8 =>
            cases sub with
            | succ s => exact hq.elim
            | zero =>
              simp only at hq ⊢
              generalize sizeT P t = d2 at hq ⊢
              cases d2 with
              | none => exact hq.elim
              | some m => exact (Det.ite (fun _ => Det.br (Det.ret _) (Det.fail _)) fun _ => Det.fail _).at_ hq
          all_goals exact det_partK.at_ hq
        all_goals exact det_partK.at_ hq
      all_goals (simp only [hd] at hq; exact det_partK.at_ hq)
  case iptr τ x sub => exact det_partK
  all_goals exact Det.fail _

theorem det_reifyK : ∀ {τ : Ty} {cs : List AV} {h : Heap} {α : Type} {G : τ.den → List AV → Heap → (α → Prop) → Prop} (_ : ∀ x cs h, Det (G x cs h)), Det (fun Q => reifyK Alg.prop τ cs h fun x cs h => G x cs h Q)
  | .i k, cs, h, _, G, hG => by
    cases cs with
    | nil => exact Det.fail _
    | cons c cs => cases c <;> first | exact Det.fail _ | exact Det.ite (fun _ => hG _ _ _) fun _ => Det.fail _
  | .u k, cs, h, _, G, hG => by
    cases cs with
    | nil => exact Det.fail _
    | cons c cs => cases c <;> first | exact Det.fail _ | exact Det.dite (fun _ => hG _ _ _) (Det.fail _)
  | .bool, cs, h, _, G, hG => by
    cases cs with
    | nil => exact Det.fail _
    | cons c cs => cases c <;> first | exact Det.fail _ | exact hG _ _ _
  | .str, cs, h, _, G, hG => by
    cases cs with
    | nil => exact Det.fail _
    | cons c cs => cases c <;> first | exact Det.fail _ | exact hG _ _ _
  | .pair a b, cs, h, _, G, hG => det_reifyK (τ := a) (G := fun x cs h Q => reifyK Alg.prop b cs h fun y cs h => G (x, y) cs h Q) fun x cs h => det_reifyK (τ := b) (G := fun y cs h Q => G (x, y) cs h Q) fun _ _ _ => hG _ _ _
  | .sl a, cs, h, _, G, hG => by
    cases cs with
    | nil => exact Det.fail _
    | cons c cs =>
      cases c
      case nilsl => exact hG _ _ _
      case imm σ xs ex nn => exact Det.bind (E := castD Alg.prop (.sl σ) (.sl a) xs) (F := fun xs Q => G xs cs h Q) det_castD fun xs => hG _ _ _
      case slr id sz off len wh cap ex nn =>
        refine Det.bind (E := rowsOf Alg.prop a h (.slr id sz off len wh cap ex nn)) (F := fun xs Q => h.dropK id fun h => G xs cs h Q) det_rowsOf fun xs => ?_
        have : (fun Q => h.dropK id fun h => G xs cs h Q) = fun Q => G xs cs (h.drop id) Q := by funext Q; rw [Heap.dropK_eq]
        rw [this]
        exact hG _ _ _
      all_goals exact Det.fail _
  | .barr n, cs, h, _, G, hG => by
    cases cs with
    | nil => exact Det.fail _
    | cons c cs => cases c <;> first | exact Det.fail _ | exact Det.ite (fun _ => hG _ _ _) fun _ => Det.fail _

theorem det_reify1K {τ : Ty} {v : AV} {h : Heap} {α : Type} {G : τ.den → Heap → (α → Prop) → Prop} (hG : ∀ x h, Det (G x h)) : Det (fun Q => reify1K Alg.prop τ v h fun x h => G x h Q) := by
  refine det_reifyK (G := fun x cs h Q => match cs with | [] => G x h Q | _ => Alg.prop.fail 102) fun x cs h => ?_
  cases cs with
  | nil => exact hG _ _
  | cons _ _ => exact Det.fail _

theorem det_foundK {va ok : Bool} {τ : Ty} {r : Option τ.den} : Det (foundK va ok τ r) := by
  cases r <;> cases ok <;> exact Det.ret _

theorem det_lookupK {h : Heap} {t : TypeId} {x ix : AV} {ok : Bool} : Det (lookupK Alg.prop P h t x ix ok) := by
  intro Q hq
  unfold lookupK at hq ⊢
  generalize mapT P t = m at hq ⊢
  split at hq
  · exact hq.elim
  rename_i ka va κ τ
  split at hq
  · exact hq.elim
  rename_i hd
  have : Det (fun Q => reify1K Alg.prop κ ix h fun k _ => match x with
      | .map id => match h.get id with
        | some (.mp ka' va' κ' τ' es _) => castD Alg.prop (.sl (.pair κ' τ')) (.sl (.pair κ τ)) es fun (es : List (κ.den × τ.den)) =>
          match decide (ka' = ka ∧ va' = va) with
          | true => foundK va ok τ (findM k es) Q
          | false => Alg.prop.fail 104
        | _ => Alg.prop.fail 104
      | .nilmap => foundK va ok τ none Q
      | _ => Alg.prop.fail 106) := by
    refine det_reify1K (G := fun k _ Q => match x with
      | .map id => match h.get id with
        | some (.mp ka' va' κ' τ' es _) => castD Alg.prop (.sl (.pair κ' τ')) (.sl (.pair κ τ)) es fun (es : List (κ.den × τ.den)) =>
          match decide (ka' = ka ∧ va' = va) with
          | true => foundK va ok τ (findM k es) Q
          | false => Alg.prop.fail 104
        | _ => Alg.prop.fail 104
      | .nilmap => foundK va ok τ none Q
      | _ => Alg.prop.fail 106) fun k _ => ?_
    cases x
    case map id =>
      simp only
      generalize h.get id = g
      cases g with
      | none => exact Det.fail _
      | some b =>
        cases b
        case mp ka' va' κ' τ' es it =>
          refine Det.bind (E := castD Alg.prop (.sl (.pair κ' τ')) (.sl (.pair κ τ)) es) (F := fun (es : List (κ.den × τ.den)) Q => match decide (ka' = ka ∧ va' = va) with | true => foundK va ok τ (findM k es) Q | false => Alg.prop.fail 104) det_castD fun es => ?_
          cases decide (ka' = ka ∧ va' = va)
          · exact Det.fail _
          · exact det_foundK
        all_goals exact Det.fail _
    case nilmap => exact det_foundK
    all_goals exact Det.fail _
  obtain ⟨v, hv, hF⟩ := this.at_ hq
  exact ⟨v, hv, fun Q' h' => by first | exact hF Q' h' | (simp only [hd]; exact hF Q' h')⟩

theorem det_entryK {h : Heap} {it : AV} : Det (entryK Alg.prop h it) := by
  intro Q hq
  unfold entryK at hq ⊢
  split at hq
  rotate_left
  · exact hq.elim
  rename_i id
  generalize h.get id = g at hq ⊢
  split at hq
  rotate_left
  · exact hq.elim
  rename_i m
  generalize h.get m = g2 at hq ⊢
  split at hq
  rotate_left
  · exact hq.elim
  exact (Det.ite (fun _ => Det.ret _) fun _ => Det.fail _).at_ hq

theorem det_readK {h : Heap} {e : Operand → AV} {o : Op} : Det (readK Alg.prop P h e o) := by
  cases o
  case load t a => exact det_loadK
  case entry it => exact det_entryK
  case lookup t x ix ok => exact det_lookupK
  case convert s d x =>
    intro Q hq
    unfold readK at hq ⊢
    simp only at hq ⊢
    generalize P.underlying d = dd at hq ⊢
    generalize P.underlying s = ds at hq ⊢
    split at hq
    · split at hq
      · exact (Det.bind (E := rowsOf Alg.prop (.u .u8) h (e x)) (F := fun (xs : List B8) Q => Q (AV.str xs)) det_rowsOf fun _ => Det.ret _).at_ hq
      · exact hq.elim
    · exact det_convK.at_ hq
  case call c =>
    intro Q hq
    unfold readK at hq ⊢
    simp only at hq ⊢
    generalize c.callee = d1 at hq ⊢
    generalize c.argTypes.toList = d2 at hq ⊢
    generalize c.args.toList.map e = d3 at hq ⊢
    split at hq
    rotate_left
    · exact hq.elim
    rename_i t ts x xs
    generalize P.underlying t = u at hq ⊢
    split at hq
    · generalize h.get _ = g at hq ⊢
      split at hq
      · exact ⟨_, hq, fun _ h' => h'⟩
      · exact hq.elim
    · exact (Det.bind (E := lenK Alg.prop P t x) (F := fun n Q => Q (AV.i .i64 (n : Int))) det_lenK fun _ => Det.ret _).at_ hq
  all_goals exact Det.fail _
end read

end Go.Tw

/- Regions whose order is open: what the plan's checks say, and small lemmas. -/
namespace Go.Tw
open Go

section bits
variable {ops : List Oper} {B : Nat}

theorem hasBit_eq (m i : Nat) : hasBit m i = m.testBit i := by
  unfold hasBit
  have e : m.testBit i = (Nat.land (Nat.shiftRight m i) 1 != 0) := by
    show (1 &&& (m >>> i) != 0) = ((m >>> i) &&& 1 != 0)
    rw [Nat.and_comm]
  rw [e]
  cases Nat.land (Nat.shiftRight m i) 1 <;> rfl

theorem allIn_iff (m l : Nat) : allIn m l = true ↔ m &&& l = m := by
  unfold allIn
  exact ⟨fun h => Nat.eq_of_beq_eq_true h, fun h => by rw [show Nat.land m l = m from h]; exact Nat.beq_refl m⟩

theorem binds_any_eq (e : Edge) : Region.binds .any e = bindsAny e := by
  unfold Region.binds bindsAny
  cases e.ground <;> rfl
theorem binds_text_eq (e : Edge) : Region.binds .text e = bindsText e := by
  unfold Region.binds bindsText
  cases e.ground <;> rfl
theorem binds_gc_eq (e : Edge) : Region.binds .gc e = bindsGc e := by
  unfold Region.binds bindsGc
  cases e.ground <;> rfl

theorem andB_iff {a b : Bool} : andB a b = true ↔ a = true ∧ b = true := by cases a <;> cases b <;> simp [andB]
theorem orB_iff {a b : Bool} : orB a b = true ↔ a = true ∨ b = true := by cases a <;> cases b <;> simp [orB]

theorem edges_bit {j : Nat} : ∀ {l : List Edge} {s : Nat}, hasBit (edgesFold B l s) j = true ↔ hasBit s j = true ∨ ∃ e ∈ l, Region.binds .any e = true ∧ (j = e.on ∨ bit B e.on j = true)
  | [], s => by simp [edgesFold]
  | e :: l, s => by
    have h0 : edgesFold B (e :: l) s = match bindsAny e with | true => edgesFold B l (Nat.lor s (Nat.lor (Nat.shiftLeft 1 e.on) (rowAt B e.on))) | false => edgesFold B l s := rfl
    rw [h0, ← binds_any_eq]
    cases hb : Region.binds .any e
    · simp only
      rw [edges_bit]
      simp [hb]
    · simp only
      rw [edges_bit]
      have e1 : ∀ s : Nat, hasBit (Nat.lor s (Nat.lor (Nat.shiftLeft 1 e.on) (rowAt B e.on))) j = true ↔ hasBit s j = true ∨ j = e.on ∨ bit B e.on j = true := by
        intro s
        unfold bit
        rw [hasBit_eq, hasBit_eq, hasBit_eq]
        show (s ||| ((1 <<< e.on) ||| rowAt B e.on)).testBit j = true ↔ _
        rw [Nat.testBit_or, Nat.testBit_or, Nat.one_shiftLeft, Nat.testBit_two_pow, Bool.or_eq_true, Bool.or_eq_true, decide_eq_true_eq]
        exact ⟨fun h => h.imp id fun h => h.imp Eq.symm id, fun h => h.imp id fun h => h.imp Eq.symm id⟩
      rw [e1]
      simp only [List.mem_cons, exists_eq_or_imp, hb, true_and]
      constructor
      · rintro ((h | h) | h)
        · exact .inl h
        · exact .inr (.inl h)
        · exact .inr (.inr h)
      · rintro (h | h | h)
        · exact .inl (.inl h)
        · exact .inl (.inr h)
        · exact .inr h

theorem edgesAll_iff {f : Edge → Bool} : ∀ {l : List Edge}, edgesAll f l = true ↔ ∀ e ∈ l, f e = true
  | [] => by simp [edgesAll]
  | e :: l => by
    have h0 : edgesAll f (e :: l) = match f e with | true => edgesAll f l | false => false := rfl
    rw [h0]
    cases hf : f e
    · simp [hf]
    · simp only [List.mem_cons, forall_eq_or_imp, hf, true_and]
      exact edgesAll_iff

structure Edged (ops : List Oper) (B : Nat) : Prop where
  low : ∀ i o, ops[i]? = some o → ∀ e ∈ o.after.toList, Region.binds .text e = true → e.on < i
  iff : ∀ i o, ops[i]? = some o → ∀ j, bit B i j = true ↔ ∃ e ∈ o.after.toList, Region.binds .any e = true ∧ (j = e.on ∨ bit B e.on j = true)

theorem edgesOk_at : ∀ {os : List Oper} {k : Nat}, edgesOk B os k = true → ∀ i o, os[i]? = some o →
    (∀ e ∈ o.after.toList, Region.binds .text e = true → e.on < k + i) ∧ rowAt B (k + i) = edgesOf B o
  | [], k, _, i, o, hi => by simp at hi
  | x :: os, k, h, i, o, hi => by
    have h : andB (edgesAll (fun e => match bindsText e with | true => Nat.ble (Nat.succ e.on) k | false => true) x.after.toList) (andB (Nat.beq (rowAt B k) (edgesOf B x)) (edgesOk B os (k + 1))) = true := h
    rw [andB_iff, andB_iff, edgesAll_iff] at h
    cases i with
    | zero =>
      simp only [List.getElem?_cons_zero, Option.some.injEq] at hi
      subst hi
      refine ⟨fun e he hb => ?_, Nat.eq_of_beq_eq_true h.2.1⟩
      have := h.1 e he
      rw [← binds_text_eq, hb] at this
      exact Nat.le_of_ble_eq_true this
    | succ i =>
      rw [List.getElem?_cons_succ] at hi
      have := edgesOk_at h.2.2 i o hi
      rw [show k + 1 + i = k + (i + 1) by omega] at this
      exact this

theorem edgesOk_spec (h : edgesOk B ops 0 = true) : Edged ops B := by
  refine ⟨fun i o hi e he hb => ?_, fun i o hi j => ?_⟩
  · have := (edgesOk_at h i o hi).1 e he hb
    rwa [Nat.zero_add] at this
  · have := (edgesOk_at h i o hi).2
    rw [Nat.zero_add] at this
    show hasBit (rowAt B i) j = true ↔ _
    rw [this, edgesOf, edges_bit]
    simp [hasBit_eq]

theorem gcLow_at : ∀ {os : List Oper} {k : Nat}, gcLow os k = true → ∀ i o, os[i]? = some o → ∀ e ∈ o.after.toList, Region.binds .gc e = true → e.on < k + i
  | [], k, _, i, o, hi => by simp at hi
  | x :: os, k, h, i, o, hi => by
    have h : andB (edgesAll (fun e => match bindsGc e with | true => Nat.ble (Nat.succ e.on) k | false => true) x.after.toList) (gcLow os (k + 1)) = true := h
    rw [andB_iff, edgesAll_iff] at h
    cases i with
    | zero =>
      simp only [List.getElem?_cons_zero, Option.some.injEq] at hi
      subst hi
      intro e he hb
      have := h.1 e he
      rw [← binds_gc_eq, hb] at this
      exact Nat.le_of_ble_eq_true this
    | succ i =>
      rw [List.getElem?_cons_succ] at hi
      have := gcLow_at h.2 i o hi
      rw [show k + 1 + i = k + (i + 1) by omega] at this
      exact this

theorem gcNext_at {listed : Nat} : ∀ {os : List Oper} {k i : Nat}, gcNext listed os k = some i → ∃ o, k ≤ i ∧ os[i - k]? = some o ∧ ∀ e ∈ o.after.toList, Region.binds .gc e = true → hasBit listed e.on = true
  | [], k, i, h => by cases h
  | x :: os, k, i, h => by
    have h : (match andB (match hasBit listed k with | true => false | false => true) (edgesAll (fun e => match bindsGc e with | true => hasBit listed e.on | false => true) x.after.toList) with
      | true => some k
      | false => gcNext listed os (k + 1)) = some i := h
    split at h
    · rename_i hc
      cases h
      rw [andB_iff, edgesAll_iff] at hc
      refine ⟨x, Nat.le_refl _, by simp, fun e he hb => ?_⟩
      have := hc.2 e he
      rw [← binds_gc_eq, hb] at this
      exact this
    · obtain ⟨o, h1, h2, h3⟩ := gcNext_at h
      refine ⟨o, by omega, ?_, h3⟩
      rw [show i - k = (i - (k + 1)) + 1 by omega, List.getElem?_cons_succ]
      exact h2

def actI (ops : List Oper) (i : Nat) : Prop := ∃ o, ops[i]? = some o ∧ cls o.op = .act

/-- An order that goes on behind what is done. -/
def OrdP (P : Program) (ops : List Oper) (B : Nat) : List Nat → (Nat → Prop) → Prop
  | [], D => ∀ i, i < ops.length → D i
  | i :: is, D => ∃ o, ops[i]? = some o ∧ ¬ D i ∧ (∀ j, bit B i j = true → D j) ∧ (isNew P o = true ∨ ∀ j, D j → actI ops j → bit B i j = true) ∧ OrdP P ops B is (fun j => j = i ∨ D j)

theorem allIn_spec {m l : Nat} (h : allIn m l = true) {j : Nat} (hj : hasBit m j = true) : hasBit l j = true := by
  rw [allIn_iff] at h
  rw [hasBit_eq] at hj ⊢
  rw [← h, Nat.testBit_and, Bool.and_eq_true] at hj
  exact hj.2

theorem hasBit_add (l i j : Nat) : hasBit (Nat.lor l (Nat.shiftLeft 1 i)) j = true ↔ j = i ∨ hasBit l j = true := by
  rw [hasBit_eq, hasBit_eq]
  show (l ||| (1 <<< i)).testBit j = true ↔ _
  rw [Nat.testBit_or, Nat.one_shiftLeft, Nat.testBit_two_pow, Bool.or_eq_true, decide_eq_true_eq]
  exact ⟨fun h => h.elim .inr fun h => .inl h.symm, fun h => h.elim (fun h => .inr h.symm) .inl⟩

theorem hasBit_full {n i : Nat} (h : i < n) : hasBit (2 ^ n - 1) i = true := by
  rw [hasBit_eq, Nat.testBit_two_pow_sub_one]; simpa using h

theorem hasBit_zero (j : Nat) : ¬ hasBit 0 j = true := by rw [hasBit_eq]; simp

theorem OrdP_congr {P : Program} : ∀ {is : List Nat} {D D' : Nat → Prop}, (∀ j, D j ↔ D' j) → OrdP P ops B is D → OrdP P ops B is D'
  | [], D, D', h, ho => fun i hi => (h i).1 (ho i hi)
  | i :: is, D, D', h, ⟨o, h1, h2, h3, h4, h5⟩ => ⟨o, h1, fun hd => h2 ((h i).2 hd), fun j hj => (h j).1 (h3 j hj), h4.imp id fun h4 j hj => h4 j ((h j).2 hj), OrdP_congr (fun j => by rw [h j]) h5⟩

theorem orderOk_spec {P : Program} : ∀ {is : List Nat} {listed acts : Nat} {D : Nat → Prop}, orderOk P ops B is listed acts = true → (∀ j, hasBit listed j = true ↔ D j) → (∀ j, hasBit acts j = true ↔ D j ∧ actI ops j) → OrdP P ops B is D
  | [], listed, acts, D, h, hl, _ => fun i hi => (hl i).1 (allIn_spec (m := 2 ^ ops.length - 1) h (hasBit_full hi))
  | i :: is, listed, acts, D, h, hl, ha => by
    have h : (match opAt ops i with
      | none => false
      | some o => andB (match hasBit listed i with | true => false | false => true) (andB (allIn (rowAt B i) listed) (andB (orB (allIn acts (rowAt B i)) (isNew P o))
        (match cls o.op with
          | .act => fN (Nat.lor listed (Nat.shiftLeft 1 i)) fun listed => fN (Nat.lor acts (Nat.shiftLeft 1 i)) fun acts => orderOk P ops B is listed acts
          | _ => fN (Nat.lor listed (Nat.shiftLeft 1 i)) fun listed => orderOk P ops B is listed acts)))) = true := h
    rw [opAt_eq] at h
    split at h
    · cases h
    rename_i o ho
    simp only [andB_iff, orB_iff] at h
    obtain ⟨h1, h2, h3, h4⟩ := h
    have hnl : ¬ hasBit listed i = true := fun hb => by rw [hb] at h1; cases h1
    refine ⟨o, ho, fun hd => hnl ((hl i).2 hd), fun j hj => (hl j).1 (allIn_spec h2 hj), h3.symm.imp id fun h3 j hd hj => allIn_spec h3 ((ha j).2 ⟨hd, hj⟩), ?_⟩
    have hlist : ∀ j, hasBit (Nat.lor listed (Nat.shiftLeft 1 i)) j = true ↔ (j = i ∨ D j) := fun j => by rw [hasBit_add, hl j]
    have other : cls o.op ≠ .act → ∀ j, hasBit acts j = true ↔ (j = i ∨ D j) ∧ actI ops j := fun hc j => by
      rw [ha j]
      constructor
      · rintro ⟨h, h'⟩; exact ⟨.inr h, h'⟩
      · rintro ⟨h | h, h'⟩
        · subst h
          obtain ⟨o', ho', hc'⟩ := h'
          cases ho.symm.trans ho'
          exact absurd hc' hc
        · exact ⟨h, h'⟩
    cases hc : cls o.op
    case act =>
      rw [hc] at h4
      simp only [fN_eq] at h4
      refine orderOk_spec h4 hlist fun j => ?_
      rw [hasBit_add, ha j]
      constructor
      · rintro (h | ⟨h, h'⟩)
        · subst h; exact ⟨.inl rfl, o, ho, hc⟩
        · exact ⟨.inr h, h'⟩
      · rintro ⟨h | h, h'⟩
        · exact .inl h
        · exact .inr ⟨h, h'⟩
    case pure =>
      rw [hc] at h4
      simp only [fN_eq] at h4
      exact orderOk_spec h4 hlist (other (by rw [hc]; decide))
    case read =>
      rw [hc] at h4
      simp only [fN_eq] at h4
      exact orderOk_spec h4 hlist (other (by rw [hc]; decide))

theorem looksAll_iff {f : Operand → Bool} : ∀ {l : List Operand}, looksAll f l = true ↔ ∀ e ∈ l, f e = true
  | [] => by simp [looksAll]
  | e :: l => by
    have h0 : looksAll f (e :: l) = match f e with | true => looksAll f l | false => false := rfl
    rw [h0]
    cases hf : f e
    · simp [hf]
    · simp only [List.mem_cons, forall_eq_or_imp, hf, true_and]
      exact looksAll_iff

theorem tmpsOk_at {W : Nat} : ∀ {os : List Oper} {k : Nat}, tmpsOk ops B W os k = true → ∀ i o, os[i]? = some o → dstOk W (k + i) o = true ∧ ∀ x ∈ looksOf ops o, lookOk B W (k + i) x = true
  | [], k, _, i, o, hi => by simp at hi
  | x :: os, k, h, i, o, hi => by
    have h : andB (dstOk W k x) (andB (looksAll (lookOk B W k) (looksOf ops x)) (tmpsOk ops B W os (k + 1))) = true := h
    rw [andB_iff, andB_iff, looksAll_iff] at h
    cases i with
    | zero =>
      simp only [List.getElem?_cons_zero, Option.some.injEq] at hi
      subst hi
      exact ⟨h.1, h.2.1⟩
    | succ i =>
      rw [List.getElem?_cons_succ] at hi
      have := tmpsOk_at h.2.2 i o hi
      rw [show k + 1 + i = k + (i + 1) by omega] at this
      exact this

/-- What a plan's checks say. -/
structure Static (ops : List Oper) (B : Nat) : Prop where
  edged : Edged ops B
  gc : gcLow ops 0 = true ∨ gcOk ops ops.length 0 = true
  tmps : ∀ i o d, ops[i]? = some o → o.dst = some d → ∀ j p, ops[j]? = some p → j ≠ i → p.dst ≠ some d ∧ (.tmp d ∈ looksOf ops p → bit B j i = true ∨ bit B i j = true)

theorem stepsOf_eq : ∀ (l : List Nat), stepsOf ops B l = l.map (stepOf ops B)
  | [] => rfl
  | i :: l => by rw [List.map_cons, ← stepsOf_eq l]; rfl

theorem planOf_spec {P : Program} {plan : List Step} (h : planOf P ops = some plan) : ∃ B order, plan = order.map (stepOf ops B) ∧ Static ops B ∧ OrdP P ops B order (fun _ => False) := by
  unfold planOf at h
  rw [fN_eq, fN_eq] at h
  split at h
  rotate_left
  · cases h
  rename_i hc
  simp only [andB_iff, orB_iff] at hc
  obtain ⟨h1, h2, h3⟩ := hc
  have hS : Static ops (befores ops 0 0) := by
    refine ⟨edgesOk_spec h1, h2, fun i o d hi hd j p hj hne => ?_⟩
    have a1 := (tmpsOk_at h3 i o hi).1
    obtain ⟨b1, b2⟩ := tmpsOk_at h3 j p hj
    rw [Nat.zero_add] at a1 b1 b2
    unfold dstOk at a1 b1
    rw [hd] at a1
    have a1 : wAt (wOf ops 0 0) d = i + 1 := Nat.eq_of_beq_eq_true a1
    refine ⟨fun hp => ?_, fun hl => ?_⟩
    · rw [hp] at b1
      have b1 : wAt (wOf ops 0 0) d = j + 1 := Nat.eq_of_beq_eq_true b1
      omega
    · have := b2 _ hl
      unfold lookOk at this
      simp only [a1, orB_iff] at this
      rcases this with h | h | h
      · exact absurd (Nat.eq_of_beq_eq_true h).symm hne
      · exact .inl h
      · exact .inr h
  have try1 : ∀ {order : List Nat} {no : Option (List Step)}, tryOrder P ops (befores ops 0 0) order no = some plan → no = some plan ∨ ∃ B order, plan = order.map (stepOf ops B) ∧ Static ops B ∧ OrdP P ops B order (fun _ => False) := by
    intro order no h
    unfold tryOrder at h
    split at h
    · rename_i ho
      cases h
      exact .inr ⟨_, order, stepsOf_eq _, hS, orderOk_spec ho (fun j => ⟨fun h => absurd h (hasBit_zero j), fun h => h.elim⟩) (fun j => ⟨fun h => absurd h (hasBit_zero j), fun h => h.1.elim⟩)⟩
    · exact .inl h
  rcases try1 h with h | h
  · rcases try1 h with h | h
    · cases h
    · exact h
  · exact h
end bits

section temps
variable {K : KW}

theorem nth_get : ∀ {l : List AV} {t : Nat} (h : t < l.length), nth l t = l[t]
  | x :: l, 0, _ => rfl
  | x :: l, t + 1, h => nth_get (l := l) (t := t) (by simpa using h)

theorem nth_out : ∀ {l : List AV} {t : Nat}, l.length ≤ t → nth l t = .undef
  | [], t, _ => rfl
  | x :: l, 0, h => by simp at h
  | x :: l, t + 1, h => nth_out (l := l) (t := t) (by simpa using h)

theorem putL_len {T : List AV} {d : Option Tmp} {v : AV} : (putL T d v).length = T.length := by
  cases d <;> simp [putL]

theorem putL_other {T : List AV} {d : Option Tmp} {v : AV} {t : Tmp} (h : d ≠ some t) : nth (putL T d v) t = nth T t := by
  cases d with
  | none => rfl
  | some d =>
    have hne : d ≠ t := fun e => h (by rw [e])
    by_cases ht : t < T.length
    · rw [nth_get ht, nth_get (l := putL T (some d) v) (by rw [putL_len]; exact ht)]
      simp [putL, List.getElem_set, hne]
    · rw [nth_out (Nat.not_lt.1 ht), nth_out (by rw [putL_len]; exact Nat.not_lt.1 ht)]

theorem putL_self {T : List AV} {v : AV} {t : Tmp} (h : t < T.length) : nth (putL T (some t) v) t = v := by
  rw [nth_get (l := putL T (some t) v) (by rw [putL_len]; exact h)]
  simp [putL]

theorem set_same {T : List AV} {t : Nat} {v : AV} (h : nth T t = v) : T.set t v = T := by
  by_cases ht : t < T.length
  · rw [nth_get ht] at h
    rw [← h]; simp
  · exact List.set_eq_of_length_le (Nat.not_lt.1 ht)

theorem rels_of : ∀ {as : List AV} {vs : List Value}, vs.length = as.length → (∀ t, t < as.length → rel K (nth as t) (vs[t]?.getD undef)) → rels K as vs
  | [], vs, hl, _ => List.eq_nil_of_length_eq_zero hl
  | a :: as, [], hl, _ => by simp at hl
  | a :: as, v :: vs, hl, h => ⟨v, vs, rfl, h 0 (by simp), rels_of (by simpa using hl) fun t ht => h (t + 1) (by simpa using ht)⟩

/-- Of temporaries some alone. -/
noncomputable def maskT (S : List Operand) (T : List AV) : List AV := (List.range T.length).map fun t => open Classical in if .tmp t ∈ S then nth T t else .undef

theorem mask_len {S : List Operand} {T : List AV} : (maskT S T).length = T.length := by simp [maskT]

theorem mask_in {S : List Operand} {T : List AV} {t : Tmp} (h : .tmp t ∈ S) : nth (maskT S T) t = nth T t := by
  by_cases ht : t < T.length
  · rw [nth_get (by rw [mask_len]; exact ht)]
    simp [maskT, h]
  · rw [nth_out (Nat.not_lt.1 ht), nth_out (by rw [mask_len]; exact Nat.not_lt.1 ht)]

theorem mask_rels {S : List Operand} {T : List AV} {A : Array Value} (hs : A.size = T.length) (h : ∀ t, .tmp t ∈ S → t < T.length → rel K (nth T t) (A.getD t undef)) : rels K (maskT S T) A.toList := by
  refine rels_of (by rw [mask_len, Array.length_toList, hs]) fun t ht => ?_
  rw [mask_len] at ht
  rw [nth_get (by rw [mask_len]; exact ht)]
  simp only [maskT, List.getElem_map, List.getElem_range]
  split
  · rename_i hc
    have := h t (by simpa using hc) ht
    rwa [Array.getD_eq_getD_getElem?, ← Array.getElem?_toList] at this
  · trivial

theorem opnds_mem {o : Op} {x : Operand} (hx : x ∈ o.operands) : x ∈ opnds o := by
  unfold opnds
  split
  · rename_i c
    have hx : x ∈ c.operands := hx
    split
    · rename_i f hf
      unfold Call.operands at hx
      rw [hf] at hx
      rcases Array.mem_append.1 hx with h | h
      · have : x = f := by simpa using h
        rw [this]; exact List.mem_cons_self
      · exact List.mem_cons_of_mem _ (Array.mem_toList_iff.2 h)
    · exact Array.mem_toList_iff.2 hx
  · simp only [Op.operands, Array.mem_append, List.mem_cons, List.mem_append] at hx ⊢
    rcases hx with ((h | h) | h) | h
    · exact .inl (by simpa using h)
    · exact .inr (.inl (by simpa using h))
    · exact .inr (.inr (.inl (by simpa using h)))
    · exact .inr (.inr (.inr (by simpa using h)))
  · simpa [Op.operands] using hx
  · simpa [Op.operands] using hx
  · simpa [Op.operands] using hx
  · exact Array.mem_toList_iff.2 hx

theorem looks_opnds {ops : List Oper} {o : Oper} {x : Operand} (h : x ∈ opnds o.op) : x ∈ looksOf ops o := by
  unfold looksOf
  split
  · split
    · split
      · exact List.mem_cons_of_mem _ h
      · exact h
    · exact h
  · exact h

theorem mask_eval {ops : List Oper} {o : Oper} {T : List AV} : ∀ x ∈ o.op.operands, evalO T x = evalO (maskT (looksOf ops o) T) x := by
  intro x hx
  cases x with
  | tmp t => exact (mask_in (S := looksOf ops o) (T := T) (t := t) (looks_opnds (opnds_mem hx))).symm
  | _ => rfl

/-- What a guard says. -/
noncomputable def guardR (ops : List Oper) (g : Option (Nat × Bool)) (T : List AV) : Option Bool := match g with
  | none => some true
  | some (j, want) => match opAt ops j with
    | none => some false
    | some p => match p.dst with
      | none => some false
      | some d => match decide (d < T.length) with
        | false => some false
        | true => match nth T d with
          | .undef => none
          | .bool b => some (b == want)
          | _ => some false

theorem guardK_iff {ops : List Oper} {g : Option (Nat × Bool)} {T : List AV} {yes no : List AV → Prop} : guardK Alg.prop ops g T yes no ↔ match guardR ops g T with | none => False | some true => yes T | some false => no T := by
  cases g with
  | none => exact Iff.rfl
  | some jw =>
    obtain ⟨j, want⟩ := jw
    simp only [guardK, guardR]
    cases opAt ops j with
    | none => exact Iff.rfl
    | some p =>
      simp only
      cases p.dst with
      | none => exact Iff.rfl
      | some d =>
        simp only
        cases decide (d < T.length) with
        | false => exact Iff.rfl
        | true =>
          simp only
          cases hv : nth T d
          case bool b =>
            cases b
            · show setK T d (.bool false) (fun ts => match (generalizing := false) want with | true => no ts | false => yes ts) ↔ _
              rw [setK_prop, set_same hv]
              cases want <;> exact Iff.rfl
            · show setK T d (.bool true) (fun ts => match (generalizing := false) want with | true => yes ts | false => no ts) ↔ _
              rw [setK_prop, set_same hv]
              cases want <;> exact Iff.rfl
          all_goals exact Iff.rfl

theorem guardR_wanted {ops : Array Oper} {o : Oper} {T : List AV} {a : Act} {r : Bool} (ht : rels K T a.tmps.toList) (h : guardR ops.toList o.guard T = some r) : Region.wanted o (yielded ops a.tmps) = r := by
  have hk : guardK Alg.prop ops.toList o.guard T (fun _ => r = true) (fun _ => r = false) := by
    rw [guardK_iff, h]
    cases r <;> rfl
  obtain ⟨ts, _, ⟨h1, h2⟩ | ⟨h1, h2⟩⟩ := guard_sound ht hk
  · rw [h1, h2]
  · rw [h1, h2]

theorem guardR_congr {ops : List Oper} {o : Oper} {T T' : List AV} (hl : T.length = T'.length) (h : ∀ t, .tmp t ∈ looksOf ops o → nth T t = nth T' t) : guardR ops o.guard T = guardR ops o.guard T' := by
  unfold guardR
  cases hg : o.guard with
  | none => rfl
  | some jw =>
    obtain ⟨j, want⟩ := jw
    simp only
    cases hj : opAt ops j with
    | none => rfl
    | some p =>
      simp only
      cases hd : p.dst with
      | none => rfl
      | some d =>
        have : nth T d = nth T' d := h d (by unfold looksOf; simp only [hg, hj, hd]; exact List.mem_cons_self)
        simp only [hl, this]

theorem put_size {a : Act} {d : Option Tmp} {v : Value} : (a.put d v).tmps.size = a.tmps.size := by cases d <;> simp [Act.put]

theorem put_other {a : Act} {d : Option Tmp} {v : Value} {t : Tmp} (h : d ≠ some t) : (a.put d v).tmps.getD t undef = a.tmps.getD t undef := by
  cases d with
  | none => rfl
  | some d =>
    have hne : d ≠ t := fun e => h (by rw [e])
    simp only [Act.put, Array.getD_eq_getD_getElem?]
    rw [Array.getElem?_setIfInBounds_ne hne]

theorem put_self {a : Act} {v : Value} {t : Tmp} (h : t < a.tmps.size) : (a.put (some t) v).tmps.getD t undef = v := by
  simp [Act.put, h]
end temps

section listed
def Lis (L : Array Bool) (i : Nat) : Prop := L.getD i false = true

theorem lis_lt {L : Array Bool} {i : Nat} (h : Lis L i) : i < L.size := by
  rcases Nat.lt_or_ge i L.size with h' | h'
  · exact h'
  · simp [Lis, Array.getElem?_eq_none h'] at h

theorem lis_set {L : Array Bool} {i j : Nat} (hi : i < L.size) : Lis (L.setIfInBounds i true) j ↔ j = i ∨ Lis L j := by
  unfold Lis
  by_cases e : j = i
  · subst e; simp [hi]
  · rw [getD_set_ne false (Ne.symm e)]; simp [e]

theorem lis_true {L : Array Bool} {i : Nat} (hi : i < L.size) : L.getD i true = false ↔ ¬ Lis L i := by
  unfold Lis
  simp [hi]

def unl (L : Array Bool) (n : Nat) : Nat := (List.range n).countP fun i => !L.getD i true

theorem countP_lt {p q : Nat → Bool} : ∀ {l : List Nat}, (∀ x ∈ l, q x = true → p x = true) → (∃ x ∈ l, p x = true ∧ q x = false) → l.countP q < l.countP p
  | [], _, ⟨x, hx, _⟩ => by simp at hx
  | y :: l, h, ⟨x, hx, h1, h2⟩ => by
    have hle : l.countP q ≤ l.countP p := List.countP_mono_left fun x hx => h x (List.mem_cons_of_mem _ hx)
    rw [List.countP_cons, List.countP_cons]
    rcases List.mem_cons.1 hx with rfl | hx
    · simp [h1, h2]; omega
    · have := countP_lt (fun x hx => h x (List.mem_cons_of_mem _ hx)) ⟨x, hx, h1, h2⟩
      have hy := h y List.mem_cons_self
      cases hq : q y
      · simp; omega
      · simp [hy hq]; omega

theorem unl_set {L : Array Bool} {n i : Nat} (hn : L.size = n) (hi : i < n) (h : ¬ Lis L i) : unl (L.setIfInBounds i true) n < unl L n := by
  refine countP_lt (fun x hx hq => ?_) ⟨i, List.mem_range.2 hi, ?_, ?_⟩
  · by_cases e : i = x
    · subst e; simp [hn, hi] at hq
    · rwa [getD_set_ne true e] at hq
  · rw [(lis_true (by omega)).2 h]; rfl
  · simp [hn, hi]

theorem unl_zero {L : Array Bool} {n : Nat} (hn : L.size = n) (h : unl L n = 0) : ∀ i, i < n → Lis L i := by
  intro i hi
  have := List.countP_eq_zero.1 h i (List.mem_range.2 hi)
  by_cases hl : Lis L i
  · exact hl
  · rw [(lis_true (by omega)).2 hl] at this; simp at this

theorem go_succ {md : Region.Mode} {ops : Array Oper} {n t : Nat} {L : Array Bool} : Region.linearise.go md ops (n + 1) t L [] =
    match (Region.ready md ops L)[t % (Region.ready md ops L).length]? with
    | some i => i :: Region.linearise.go md ops n (t / (Region.ready md ops L).length) (L.setIfInBounds i true) []
    | none => [] := by
  simp only [Region.linearise.go]
  change (match (Region.ready md ops L)[t % (Region.ready md ops L).length]? with
      | some i => Region.linearise.go md ops n (t / (Region.ready md ops L).length) (L.setIfInBounds i true) [i]
      | none => [].reverse) = _
  split
  · rw [linearise_go_acc]; rfl
  · rfl

theorem ready_low {md : Region.Mode} {ops : Array Oper} {L : Array Bool} (hE : ∀ i o, ops.toList[i]? = some o → ∀ e ∈ o.after.toList, Region.binds md e = true → e.on < i) (hL : L.size = ops.size) (h : Region.ready md ops L = []) : ∀ i, i < ops.size → Lis L i := by
  intro i
  induction i using Nat.strongRecOn with
  | _ i ih =>
    intro hi
    by_cases hl : Lis L i
    · exact hl
    · exfalso
      have : i ∈ Region.ready md ops L := by
        rw [mem_ready]
        refine ⟨(lis_true (by omega)).2 hl, ops[i], Array.getElem?_eq_getElem hi, fun e he hb => ?_⟩
        have := hE i ops[i] (by simp [hi]) e (Array.mem_toList_iff.2 he) hb
        exact ih e.on this (Nat.lt_trans this hi)
      rw [h] at this; cases this

theorem ready_gc {ops : Array Oper} {L : Array Bool} (hL : L.size = ops.size) (h : Region.ready .gc ops L = []) : ∀ {n listed : Nat}, gcOk ops.toList n listed = true → (∀ j, hasBit listed j = true → Lis L j) → ∀ i, i < ops.size → Lis L i
  | 0, listed, hg, hl => fun i hi => hl i (allIn_spec (m := 2 ^ ops.toList.length - 1) hg (hasBit_full (by simpa using hi)))
  | n + 1, listed, hg, hl => by
    unfold gcOk at hg
    split at hg
    rotate_left
    · cases hg
    rename_i i hn
    obtain ⟨o, _, ho, he⟩ := gcNext_at hn
    rw [Nat.sub_zero, Array.getElem?_toList] at ho
    have hi : i < ops.size := (Array.getElem?_eq_some_iff.1 ho).1
    refine ready_gc hL h hg fun j hj => ?_
    rw [hasBit_add] at hj
    rcases hj with e | hj
    rotate_left
    · exact hl j hj
    · rw [e]
      by_cases hli : Lis L i
      · exact hli
      · exfalso
        have : i ∈ Region.ready .gc ops L := by
          rw [mem_ready]
          exact ⟨(lis_true (by omega)).2 hli, o, ho, fun e hm hb => hl _ (he e (Array.mem_toList_iff.2 hm) hb)⟩
        rw [h] at this; cases this

theorem binds_any {md : Region.Mode} {e : Edge} (h : Region.binds .any e = true) : Region.binds md e = true := by
  unfold Region.binds at *
  split at h
  · exact absurd h (by decide)
  · exact absurd h (by decide)
  · rfl

theorem ready_nil {ops : Array Oper} {b : Nat} {L : Array Bool} (hS : Static ops.toList b) (hL : L.size = ops.size) {md : Region.Mode} (h : Region.ready md ops L = []) : ∀ i, i < ops.size → Lis L i := by
  cases md with
  | text => exact ready_low hS.edged.low hL h
  | any => exact ready_low (fun i o ho e he hb => hS.edged.low i o ho e he (binds_any hb)) hL h
  | gc =>
    rcases hS.gc with hg | hg
    · exact ready_low (fun i o ho e he hb => by have := gcLow_at hg i o ho e he hb; rwa [Nat.zero_add] at this) hL h
    · exact ready_gc hL h hg (fun j hj => absurd hj (hasBit_zero j))

theorem schedule_md (mixed : Bool) (ops : Array Oper) (t : Nat) : ∃ md t', Region.schedule mixed ops t = Region.linearise md ops t' := by
  unfold Region.schedule
  split
  · exact ⟨_, _, rfl⟩
  · exact ⟨_, _, rfl⟩
end listed

end Go.Tw

/- Regions whose order is open: what is read again, what is done ahead. -/
namespace Go.Tw
open Go

mutual
theorem beqV_eq : ∀ {x y : AV}, beqV x y = true → x = y := by
  intro x y h
  cases x <;> cases y <;> simp only [beqV, Bool.and_eq_true, decide_eq_true_eq] at h <;> try exact Bool.noConfusion h
  case i.i => obtain ⟨rfl, rfl⟩ := h; rfl
  case u.u => obtain ⟨rfl, h⟩ := h; rw [BitVec.eq_of_toNat_eq h]
  case bool.bool a b => cases a <;> cases b <;> first | rfl | exact Bool.noConfusion h
  case str.str => rw [h]
  case nilptr.nilptr => rfl
  case ptr.ptr => obtain ⟨rfl, rfl⟩ := h; rfl
  case rptr.rptr => obtain ⟨⟨rfl, rfl⟩, rfl⟩ := h; rfl
  case nilsl.nilsl => rfl
  case slr.slr _ _ _ _ w _ e n _ _ _ _ w' _ e' n' =>
    obtain ⟨⟨⟨⟨⟨⟨⟨rfl, rfl⟩, rfl⟩, rfl⟩, h1⟩, rfl⟩, h2⟩, h3⟩ := h
    cases w <;> cases w' <;> cases e <;> cases e' <;> cases n <;> cases n' <;> first | rfl | exact Bool.noConfusion h1 | exact Bool.noConfusion h2 | exact Bool.noConfusion h3
  case slc.slc _ _ _ _ _ e _ _ _ _ _ e' =>
    obtain ⟨⟨⟨⟨⟨rfl, rfl⟩, rfl⟩, rfl⟩, rfl⟩, h1⟩ := h
    cases e <;> cases e' <;> first | rfl | exact Bool.noConfusion h1
  case imm.imm τ xs e n σ ys e' n' =>
    obtain ⟨⟨h1, h2⟩, h3⟩ := h
    split at h3
    · rename_i hτ
      subst hτ
      have := (beq_iff (.sl τ) xs ys).1 h3
      subst this
      cases e <;> cases e' <;> cases n <;> cases n' <;> first | rfl | exact Bool.noConfusion h1 | exact Bool.noConfusion h2
    · cases h3
  case map.map => rw [h]
  case nilmap.nilmap => rfl
  case fn.fn => obtain ⟨⟨rfl, h1⟩, h2⟩ := h; rw [beqVs_eq h1, beqVs_eq h2]
  case nilfn.nilfn => rfl
  case yld.yld => rw [h]
  case agg.agg => rw [beqVs_eq h]
  case barr.barr => obtain ⟨rfl, rfl⟩ := h; rfl
  case tup.tup => rw [beqVs_eq h]
theorem beqVs_eq : ∀ {x y : List AV}, beqVs x y = true → x = y := by
  intro x y h
  cases x <;> cases y <;> simp only [beqVs, Bool.and_eq_true] at h <;> try exact Bool.noConfusion h
  · rfl
  · rw [beqV_eq h.1, beqVs_eq h.2]
end

theorem sameV_prop {cl : Bool} {x y : AV} {p : Prop} (h : sameV Alg.prop cl x y p) : x = y ∧ p := by
  cases cl
  · exact h
  · unfold sameV at h
    cases hb : beqV x y with
    | false => rw [hb] at h; exact h.elim
    | true => rw [hb] at h; exact ⟨beqV_eq hb, h⟩

theorem checkReads_spec {P : Program} {cl : Bool} {h : Heap} : ∀ {ss : List Seen} {p : Prop}, checkReads Alg.prop P cl h ss p → p ∧ ∀ i op T v, (⟨i, op, T, v⟩ : Seen) ∈ ss → readK Alg.prop P h (evalO T) op (· = v)
  | [], p, hk => ⟨hk, fun _ _ _ _ hs => by cases hs⟩
  | ⟨i, op, T, v⟩ :: ss, p, hk => by
    unfold checkReads at hk
    obtain ⟨x, hx, hF⟩ := det_readK.at_ hk
    rw [fS_eq] at hx
    obtain ⟨e, hk2⟩ := sameV_prop hx
    subst e
    obtain ⟨hp, hr⟩ := checkReads_spec hk2
    refine ⟨hp, fun j op' T' v' hs => ?_⟩
    rcases List.mem_cons.1 hs with e | hs
    · cases e
      exact hF _ rfl
    · exact hr j op' T' v' hs

theorem stillOpen_mem {bi : Nat} {i : Nat} {op : Op} {T : List AV} {v : AV} (hb : ¬ hasBit bi i = true) : ∀ {ss : List Seen}, (⟨i, op, T, v⟩ : Seen) ∈ ss → ⟨i, op, T, v⟩ ∈ stillOpen bi ss
  | ⟨j, op', T', v'⟩ :: ss, hs => by
    unfold stillOpen
    rcases List.mem_cons.1 hs with e | hs
    · cases e
      split
      · rename_i hb'; exact absurd hb' hb
      · exact List.mem_cons_self
    · split
      · exact stillOpen_mem hb hs
      · exact List.mem_cons_of_mem _ (stillOpen_mem hb hs)

theorem zeroT_all {P : Program} {t : TypeId} {cs : List AV} (h : zeroT P t = some cs) : ∃ z, (∀ w, (zeroValue t).run P w = .ok z w) ∧ ∀ K, relCs K cs z.cells.toList := by
  obtain ⟨z, n, h1, h2, _⟩ := zeroT_sound (K := ⟨fun _ => none, fun _ => none⟩) h
  refine ⟨z, h1, fun K => ?_⟩
  obtain ⟨z', n', h1', h2', _⟩ := zeroT_sound (K := K) h
  have := (h1 default).symm.trans (h1' default)
  cases this
  exact h2'

section adopt
variable {K K0 : KW} {h h0 : Heap} {w w0 : World}

/-- A block of memory that was made ahead is a new thing's. -/
theorem R.adopt (hR : R K h w) {cs : List AV} {C : Array Value} {T : TypeId} {bl : Nat} (hr : ∀ K, relCs K cs C.toList) (hb : w.heap[bl]? = some (.cells C T (0, 0))) (hn : ¬ Blocks K h bl) (hS : K.S bl = none) :
    R (K.new h.next ⟨bl, 0, C.size, 0, 0, false⟩) (h.push (.cells cs)) w := by
  have hle : K.le (K.new h.next ⟨bl, 0, C.size, 0, 0, false⟩) := KW.le_new hR.fresh
  have old : ∀ id x L, h.get id = some x → K.β id = some L → L.virt = false → L.b ≠ bl := fun id x L h1 h2 h3 e => hn ⟨id, x, L, h1, h2, h3, e⟩
  refine ⟨?_, ?_, ?_, ?_, ?_, ?_⟩
  · intro id x hg
    rw [Heap.get_push] at hg
    split at hg
    · rename_i e
      cases hg
      subst e
      exact ⟨_, KW.new_self, rfl, C.toList, ⟨C, T, (0, 0), [], [], hb, by simp, rfl, rfl, .inl rfl⟩, hr _⟩
    · obtain ⟨L, hL, hx⟩ := hR.live _ _ hg
      exact ⟨L, hle.β _ _ hL, blkRel_frame hle hx (fun _ => rfl) (fun _ _ _ _ _ _ _ _ _ _ _ => rfl)⟩
  · intro id id' x y L1 L2 h1 h2 k1 k2 v1 v2 e
    rw [Heap.get_push] at h1 h2
    by_cases e1 : id = h.next <;> by_cases e2 : id' = h.next
    · rw [e1, e2]
    · rw [if_neg e2] at h2
      rcases KW.new_of k2 with ⟨e3, _⟩ | k2
      · exact absurd e3 e2
      · rcases KW.new_of k1 with ⟨_, e3⟩ | k1
        · subst e3; exact absurd e.symm (old _ _ _ h2 k2 v2)
        · rw [e1, hR.fresh] at k1; cases k1
    · rw [if_neg e1] at h1
      rcases KW.new_of k1 with ⟨e3, _⟩ | k1
      · exact absurd e3 e1
      · rcases KW.new_of k2 with ⟨_, e3⟩ | k2
        · subst e3; exact absurd e (old _ _ _ h1 k1 v1)
        · rw [e2, hR.fresh] at k2; cases k2
    · rw [if_neg e1] at h1
      rw [if_neg e2] at h2
      rcases KW.new_of k1 with ⟨e3, _⟩ | k1
      · exact absurd e3 e1
      · rcases KW.new_of k2 with ⟨e3, _⟩ | k2
        · exact absurd e3 e2
        · exact hR.inj _ _ _ _ _ _ h1 h2 k1 k2 v1 v2 e
  · intro id L hL
    rw [Heap.next_push]
    rcases KW.new_of hL with ⟨e, _⟩ | hL
    · omega
    · have := hR.dom _ _ hL; omega
  · intro b C' hs; exact hR.stab b C' hs
  · intro id x L hg hL hv
    rw [Heap.get_push] at hg
    rcases KW.new_of hL with ⟨e, e3⟩ | hL'
    · subst e3; exact hS
    · split at hg
      · rename_i e; rw [e, hR.fresh] at hL'; cases hL'
      · exact hR.sep _ _ _ hg hL' hv
  · intro m ka va κ τ es id left last hm
    rw [Heap.get_push] at hm
    split at hm
    · cases hm
    · have := hR.iters _ _ _ _ _ _ _ _ _ hm
      rw [Heap.get_push, if_neg]
      · exact this
      · rintro rfl
        obtain ⟨L, hL, _⟩ := hR.live _ _ this
        rw [hR.fresh] at hL; cases hL

theorem adopt_blocks (hR : R K h w) {cs : List AV} {L : Loc} {b : Nat} (hb : Blocks (K.new h.next L) (h.push (.cells cs)) b) : b = L.b ∨ Blocks K h b := by
  obtain ⟨id, x, L', hg, hL, hv, e⟩ := hb
  rw [Heap.get_push] at hg
  rcases KW.new_of hL with ⟨_, e3⟩ | hL'
  · subst e3; exact .inl e.symm
  · split at hg
    · rename_i e; rw [e, hR.fresh] at hL'; cases hL'
    · exact .inr ⟨id, x, L', hg, hL', hv, e⟩

theorem Ext.adopt (hE : Ext K0 h0 w0 K h w) (hR : R K h w) {cs : List AV} {L : Loc} (hb : w0.heap.size ≤ L.b) : Ext K0 h0 w0 (K.new h.next L) (h.push (.cells cs)) w :=
  ⟨hE.le.trans (KW.le_new hR.fresh), hE.size, hE.keep, fun b hlt hB => by
    rcases adopt_blocks hR hB with e | hB
    · omega
    · exact hE.own b hlt hB, by rw [Heap.next_push]; have := hE.next; omega, hE.os, hE.output, hE.tape, hE.stable⟩
end adopt

end Go.Tw

/- Regions whose order is open: one order stands for all of them. -/
namespace Go.Tw
open Go

section main
variable {P : Program} {cl : Bool} {sp : Specs Prop} {call : Call Prop} {ops : Array Oper} {B : Nat} {T0 : List AV} {K0 : KW} {h0 : Heap} {w0 : World} {ds : List Deferred} {Kc : List AV → Heap → Prop}

/-- What was read or reckoned already, and is yet to be done by the machine. -/
def Lag (P : Program) (cl : Bool) (ops : Array Oper) (B : Nat) (T0 Tπ : List AV) (h : Heap) (seen : List Seen) (i : Nat) (o : Oper) : Prop :=
  ∃ Tp, Tp.length = T0.length ∧
    (∀ t, .tmp t ∈ looksOf ops.toList o → (∀ j p, bit B i j = true → ops.toList[j]? = some p → p.dst = some t → nth Tp t = nth Tπ t) ∧ ((∀ j p, bit B i j = true → ops.toList[j]? = some p → p.dst ≠ some t) → nth Tp t = nth T0 t)) ∧
    ((guardR ops.toList o.guard Tp = some false ∧ ∀ t, o.dst = some t → t < T0.length → nth Tπ t = .tup []) ∨
     (guardR ops.toList o.guard Tp = some true ∧ ∃ v, ((cls o.op = .pure ∧ pureK Alg.prop P cl (evalO Tp) o.op (· = v)) ∨ (cls o.op = .read ∧ readK Alg.prop P h (evalO Tp) o.op (· = v) ∧ (⟨i, o.op, Tp, v⟩ : Seen) ∈ seen)) ∧
       ∀ t, o.dst = some t → t < T0.length → nth Tπ t = v))

/-- New memory that the machine made already. -/
def Ahead (P : Program) (T0 : List AV) (w0 : World) (K : KW) (h : Heap) (w : World) (a : Act) (o : Oper) (bl : Nat) : Prop :=
  ∃ t cs C T, o.op = .alloc t ∧ o.guard = none ∧ zeroT P t = some cs ∧ (∀ K, relCs K cs C.toList) ∧ w.heap[bl]? = some (.cells C T (0, 0)) ∧ w0.heap.size ≤ bl ∧ ¬ Blocks K h bl ∧ K.S bl = none ∧
    ∀ d, o.dst = some d → d < T0.length → a.tmps.getD d undef = .pointer (some ⟨bl, 0, none⟩)

structure Inv (P : Program) (cl : Bool) (sp : Specs Prop) (call : Call Prop) (ops : Array Oper) (B : Nat) (T0 : List AV) (K0 : KW) (h0 : Heap) (w0 : World) (ds : List Deferred) (Kc : List AV → Heap → Prop)
    (rem : List Nat) (D : Nat → Prop) (Tπ : List AV) (h : Heap) (seen : List Seen) (bl : Nat → Nat) (L : Array Bool) (a : Act) (w : World) (K : KW) : Prop where
  ord : OrdP P ops.toList B rem D
  Ddown : ∀ i, D i → ∀ j, bit B i j = true → D j
  hk : openK Alg.prop P cl sp call ops.toList (rem.map (stepOf ops.toList B)) Tπ h seen Kc
  lenT : Tπ.length = T0.length
  size : a.tmps.size = T0.length
  init : ∀ t, (∀ i o, D i → ops.toList[i]? = some o → o.dst ≠ some t) → nth Tπ t = nth T0 t
  Lsize : L.size = ops.size
  Ldown : ∀ i, Lis L i → ∀ j, bit B i j = true → Lis L j
  acts : ∀ i, D i → actI ops.toList i → Lis L i
  ahead : ∀ i o, Lis L i → ¬ D i → ops.toList[i]? = some o → Ahead P T0 w0 K h w a o (bl i)
  apart : ∀ i j, Lis L i → ¬ D i → Lis L j → ¬ D j → bl i = bl j → i = j
  wrote : ∀ i o t, Lis L i → D i → ops.toList[i]? = some o → o.dst = some t → t < T0.length → rel K (nth Tπ t) (a.tmps.getD t undef)
  fresh : ∀ t, t < T0.length → (∀ i o, Lis L i → ops.toList[i]? = some o → o.dst ≠ some t) → rel K (nth T0 t) (a.tmps.getD t undef)
  lag : ∀ i o, D i → ¬ Lis L i → ops.toList[i]? = some o → Lag P cl ops B T0 Tπ h seen i o
  R : R K h w
  ext : Ext K0 h0 w0 K h w
  defers : a.defers = ds

variable {rem : List Nat} {D : Nat → Prop} {Tπ : List AV} {h : Heap} {seen : List Seen} {bl : Nat → Nat} {L : Array Bool} {a : Act} {w : World} {K : KW}

theorem ops_at {i : Nat} {o : Oper} (h : ops.toList[i]? = some o) : ops[i]? = some o ∧ i < ops.size := by
  rw [Array.getElem?_toList] at h
  exact ⟨h, (Array.getElem?_eq_some_iff.1 h).1⟩

theorem put_defers' (a : Act) (d : Option Tmp) (v : Value) : (a.put d v).defers = a.defers := put_defers a d v

/-- What the next operation looks at stands as it should. -/
theorem Inv.looks (hS : Static ops.toList B) (I : Inv P cl sp call ops B T0 K0 h0 w0 ds Kc rem D Tπ h seen bl L a w K) {i : Nat} {o : Oper} (ho : ops.toList[i]? = some o) (hD : ¬ D i) (hL : ¬ Lis L i) (hbD : ∀ j, bit B i j = true → D j) (hbL : ∀ j, bit B i j = true → Lis L j) :
    ∀ t, .tmp t ∈ looksOf ops.toList o → t < Tπ.length → rel K (nth Tπ t) (a.tmps.getD t undef) := by
  intro t ht hlt
  rw [I.lenT] at hlt
  by_cases hw : ∃ j p, Lis L j ∧ ops.toList[j]? = some p ∧ p.dst = some t
  · obtain ⟨j, p, hj, hp, hd⟩ := hw
    by_cases hDj : D j
    · exact I.wrote j p t hj hDj hp hd hlt
    · exfalso
      have hne : i ≠ j := fun e => hL (e ▸ hj)
      rcases (hS.tmps j p t hp hd i o ho hne).2 ht with hb | hb
      · exact hDj (hbD j hb)
      · exact hL (I.Ldown j hj i hb)
  · have hno : ∀ j p, Lis L j → ops.toList[j]? = some p → p.dst ≠ some t := fun j p h1 h2 h3 => hw ⟨j, p, h1, h2, h3⟩
    have hinit : nth Tπ t = nth T0 t := by
      refine I.init t fun j p hDj hp hd => ?_
      have hne : i ≠ j := fun e => hD (e ▸ hDj)
      rcases (hS.tmps j p t hp hd i o ho hne).2 ht with hb | hb
      · exact hno j p (hbL j hb) hp hd
      · exact hD (I.Ddown j hDj i hb)
    rw [hinit]
    exact I.fresh t hlt hno

/-- One that lags is done. -/
theorem Inv.lagStep (hS : Static ops.toList B) (I : Inv P cl sp call ops B T0 K0 h0 w0 ds Kc rem D Tπ h seen bl L a w K) {i : Nat} {o : Oper} (ho : ops.toList[i]? = some o) (hD : D i) (hL : ¬ Lis L i) (hbL : ∀ j, bit B i j = true → Lis L j)
    (b : Frame) (rest : List Nat) (k : List Item) (cs : List Frame) :
    ∃ v, step P (lone (b.atR a (.inRegion ops (i :: rest) :: k)) cs w) = .next (lone (b.atR (a.put o.dst v) (.inRegion ops rest :: k)) cs w) ∧ Inv P cl sp call ops B T0 K0 h0 w0 ds Kc rem D Tπ h seen bl (L.setIfInBounds i true) (a.put o.dst v) w K := by
  obtain ⟨hoa, hlt⟩ := ops_at ho
  obtain ⟨Tp, hTl, hTp, hcase⟩ := I.lag i o hD hL ho
  have hT : rels K (maskT (looksOf ops.toList o) Tp) a.tmps.toList := by
    refine mask_rels (by rw [I.size, hTl]) fun t ht htl => ?_
    rw [hTl] at htl
    obtain ⟨h1, h2⟩ := hTp t ht
    by_cases hw : ∃ j p, bit B i j = true ∧ ops.toList[j]? = some p ∧ p.dst = some t
    · obtain ⟨j, p, hj, hp, hd⟩ := hw
      rw [h1 j p hj hp hd]
      exact I.wrote j p t (hbL j hj) (I.Ddown i hD j hj) hp hd htl
    · have hno : ∀ j p, bit B i j = true → ops.toList[j]? = some p → p.dst ≠ some t := fun j p h1 h2 h3 => hw ⟨j, p, h1, h2, h3⟩
      rw [h2 hno]
      refine I.fresh t htl fun j p hj hp hd => ?_
      have hne : i ≠ j := fun e => hL (e ▸ hj)
      rcases (hS.tmps j p t hp hd i o ho hne).2 ht with hb | hb
      · exact hno j p hb hp hd
      · exact hL (I.Ldown j hj i hb)
  have hg : guardR ops.toList o.guard (maskT (looksOf ops.toList o) Tp) = guardR ops.toList o.guard Tp := guardR_congr mask_len fun t ht => mask_in ht
  have main : ∃ v, step P (lone (b.atR a (.inRegion ops (i :: rest) :: k)) cs w) = .next (lone (b.atR (a.put o.dst v) (.inRegion ops rest :: k)) cs w) ∧ ∀ t, o.dst = some t → t < T0.length → rel K (nth Tπ t) v := by
    rcases hcase with ⟨hgf, hv⟩ | ⟨hgt, v, hv, hdst⟩
    · have hw : Region.wanted o (yielded ops a.tmps) = false := guardR_wanted hT (hg.trans hgf)
      refine ⟨undef, ?_, fun t h1 h2 => ?_⟩
      · have := stepR_op_skip (P := P) (b := b) (a := a) (k := k) (cs := cs) (w := w) (ops := ops) (i := i) (rest := rest) (by rw [hoa]; exact hw)
        rw [hoa] at this
        exact this
      · rw [hv t h1 h2]; exact ⟨#[], rfl, rfl⟩
    · have hw : Region.wanted o (yielded ops a.tmps) = true := guardR_wanted hT (hg.trans hgt)
      have he := eval_rel hT
      rcases hv with ⟨hc, hk⟩ | ⟨hc, hk, _⟩
      · rw [pureK_congr (mask_eval (ops := ops.toList))] at hk
        obtain ⟨u, av, h1, h2, rfl⟩ := pure_sound he hk
        refine ⟨u, step_value hoa hw (fun c e => by rw [e] at hc; cases hc) (h1 w), fun t h1 h3 => ?_⟩
        rw [hdst t h1 h3]; exact h2
      · rw [readK_congr (mask_eval (ops := ops.toList))] at hk
        obtain ⟨u, av, h1, h2, rfl⟩ := read_sound I.R he hk
        refine ⟨u, step_value hoa hw (fun c e => by rw [e] at hc; cases hc) h1, fun t h1 h3 => ?_⟩
        rw [hdst t h1 h3]; exact h2
  obtain ⟨v, hs, hv⟩ := main
  have hset : ∀ j, Lis (L.setIfInBounds i true) j ↔ j = i ∨ Lis L j := fun j => lis_set (by rw [I.Lsize]; exact hlt)
  refine ⟨v, hs, ⟨I.ord, I.Ddown, I.hk, I.lenT, by rw [put_size, I.size], I.init, by simp [I.Lsize], ?_, ?_, ?_, ?_, ?_, ?_, ?_, I.R, I.ext, by rw [put_defers, I.defers]⟩⟩
  · intro j hj j' hb
    rw [hset] at hj ⊢
    rcases hj with rfl | hj
    · exact .inr (hbL j' hb)
    · exact .inr (I.Ldown j hj j' hb)
  · intro j hDj hj; rw [hset]; exact .inr (I.acts j hDj hj)
  · intro j p hj hDj hp
    rw [hset] at hj
    rcases hj with rfl | hj
    · exact absurd hD hDj
    · obtain ⟨t, cs, C, T, e1, e2, e3, e4, e5, e6, e7, e8, e9⟩ := I.ahead j p hj hDj hp
      refine ⟨t, cs, C, T, e1, e2, e3, e4, e5, e6, e7, e8, fun d hd hdl => ?_⟩
      rw [put_other, e9 d hd hdl]
      intro hod
      have hne : i ≠ j := fun e => hDj (e ▸ hD)
      exact (hS.tmps j p d hp hd i o ho hne).1 hod
  · intro j j' hj hDj hj' hDj' e
    rw [hset] at hj hj'
    rcases hj with rfl | hj
    · exact absurd hD hDj
    rcases hj' with rfl | hj'
    · exact absurd hD hDj'
    exact I.apart j j' hj hDj hj' hDj' e
  · intro j p t hj hDj hp hd htl
    by_cases hji : j = i
    · subst hji
      cases ho.symm.trans hp
      rw [hd, put_self (by rw [I.size]; exact htl)]
      exact hv t hd htl
    · rw [hset] at hj
      rcases hj with rfl | hj
      · exact absurd rfl hji
      rw [put_other]
      · exact I.wrote j p t hj hDj hp hd htl
      · exact (hS.tmps j p t hp hd i o ho (fun e => hji e.symm)).1
  · intro t htl hno
    rw [put_other (hno i o ((hset i).2 (.inl rfl)) ho)]
    exact I.fresh t htl fun j p hj hp => hno j p ((hset j).2 (.inr hj)) hp
  · intro j p hDj hj hp
    exact I.lag j p hDj (fun h => hj ((hset j).2 (.inr h))) hp

theorem new_alloc {o : Oper} (h : isNew P o = true) : ∃ t cs, o.op = .alloc t ∧ o.guard = none ∧ zeroT P t = some cs := by
  unfold isNew at h
  split at h
  · rename_i t h1 h2
    split at h
    · rename_i cs hz; exact ⟨t, cs, h1, h2, hz⟩
    · cases h
  · cases h

/-- New memory made ahead. -/
theorem Inv.newStep (hS : Static ops.toList B) (I : Inv P cl sp call ops B T0 K0 h0 w0 ds Kc rem D Tπ h seen bl L a w K) {i : Nat} {o : Oper} (ho : ops.toList[i]? = some o) (hn : isNew P o = true) (hD : ¬ D i) (hL : ¬ Lis L i) (hbL : ∀ j, bit B i j = true → Lis L j)
    (b : Frame) (rest : List Nat) (k : List Item) (cs : List Frame) :
    ∃ v w' bl', step P (lone (b.atR a (.inRegion ops (i :: rest) :: k)) cs w) = .next (lone (b.atR (a.put o.dst v) (.inRegion ops rest :: k)) cs w') ∧ Inv P cl sp call ops B T0 K0 h0 w0 ds Kc rem D Tπ h seen bl' (L.setIfInBounds i true) (a.put o.dst v) w' K := by
  obtain ⟨hoa, hlt⟩ := ops_at ho
  obtain ⟨t, zs, e1, e2, e3⟩ := new_alloc hn
  obtain ⟨z, hz, hzr⟩ := zeroT_all e3
  have hrun : (execOp a.eval o).run P w = .ok (.value (.pointer (some ⟨w.heap.size, 0, none⟩))) { w with heap := w.heap.push (.cells z.cells t) } := by
    simp [execOp, e1, Instr.alloc, hz, newVar, newRow]
  have hw : Region.wanted o (yielded ops a.tmps) = true := by simp [Region.wanted, e2]
  obtain ⟨hR', hE'⟩ := I.R.alloc (.cells z.cells t)
  have hset : ∀ j, Lis (L.setIfInBounds i true) j ↔ j = i ∨ Lis L j := fun j => lis_set (by rw [I.Lsize]; exact hlt)
  have hbound : ∀ j p, Lis L j → ¬ D j → ops.toList[j]? = some p → bl j < w.heap.size := by
    intro j p hj hDj hp
    obtain ⟨t, cs, C, T, _, _, _, _, e5, _⟩ := I.ahead j p hj hDj hp
    exact (Array.getElem?_eq_some_iff.1 e5).1
  have hat : ∀ j, Lis L j → ∃ p, ops.toList[j]? = some p := by
    intro j hj
    have := lis_lt hj
    rw [I.Lsize] at this
    exact ⟨ops[j], by simp [this]⟩
  refine ⟨_, _, fun j => if j = i then w.heap.size else bl j, step_value hoa hw (fun c e => by rw [e1] at e; cases e) hrun, ⟨I.ord, I.Ddown, I.hk, I.lenT, by rw [put_size, I.size], I.init, by simp [I.Lsize], ?_, ?_, ?_, ?_, ?_, ?_, ?_, hR', I.ext.trans hE', by rw [put_defers, I.defers]⟩⟩
  · intro j hj j' hb
    rw [hset] at hj ⊢
    rcases hj with rfl | hj
    · exact .inr (hbL j' hb)
    · exact .inr (I.Ldown j hj j' hb)
  · intro j hDj hj; rw [hset]; exact .inr (I.acts j hDj hj)
  · intro j p hj hDj hp
    by_cases hji : j = i
    · subst hji
      cases ho.symm.trans hp
      refine ⟨t, zs, z.cells, t, e1, e2, e3, hzr, by simp, ?_, ?_, ?_, fun d hd hdl => ?_⟩
      · simp only [if_pos]; exact I.ext.size
      · simp only [if_pos]
        rintro ⟨id, x, Lc, hg, hLc, hv, e⟩
        obtain ⟨L', hL', hb⟩ := I.R.live _ _ hg
        cases hLc.symm.trans hL'
        have := blkRel_bound hb hv
        omega
      · simp only [if_pos]; exact I.R.S_out (Nat.le_refl _)
      · rw [hd, put_self (by rw [I.size]; exact hdl)]; simp
    · rw [hset] at hj
      rcases hj with rfl | hj
      · exact absurd rfl hji
      have hb := hbound j p hj hDj hp
      obtain ⟨t', cs', C, T, f1, f2, f3, f4, f5, f6, f7, f8, f9⟩ := I.ahead j p hj hDj hp
      simp only [if_neg hji]
      refine ⟨t', cs', C, T, f1, f2, f3, f4, ?_, f6, f7, f8, fun d hd hdl => ?_⟩
      · simp only [Array.getElem?_push, if_neg (Nat.ne_of_lt hb)]; exact f5
      · rw [put_other, f9 d hd hdl]
        exact (hS.tmps j p d hp hd i o ho (fun e => hji e.symm)).1
  · intro j j' hj hDj hj' hDj' e
    rw [hset] at hj hj'
    by_cases h1 : j = i <;> by_cases h2 : j' = i
    · rw [h1, h2]
    · simp only [h1, if_pos, if_neg h2] at e
      rcases hj' with hj' | hj'
      · exact absurd hj' h2
      obtain ⟨p, hp⟩ := hat j' hj'
      have := hbound j' p hj' hDj' hp
      omega
    · simp only [h2, if_pos, if_neg h1] at e
      rcases hj with hj | hj
      · exact absurd hj h1
      obtain ⟨p, hp⟩ := hat j hj
      have := hbound j p hj hDj hp
      omega
    · simp only [if_neg h1, if_neg h2] at e
      rcases hj with hj | hj
      · exact absurd hj h1
      rcases hj' with hj' | hj'
      · exact absurd hj' h2
      exact I.apart j j' hj hDj hj' hDj' e
  · intro j p t' hj hDj hp hd htl
    rw [hset] at hj
    rcases hj with rfl | hj
    · exact absurd hDj hD
    rw [put_other]
    · exact I.wrote j p t' hj hDj hp hd htl
    · exact (hS.tmps j p t' hp hd i o ho (fun e => hD (e ▸ hDj))).1
  · intro t' htl hno
    rw [put_other (hno i o ((hset i).2 (.inl rfl)) ho)]
    exact I.fresh t' htl fun j p hj hp => hno j p ((hset j).2 (.inr hj)) hp
  · intro j p hDj hj hp
    exact I.lag j p hDj (fun h => hj ((hset j).2 (.inr h))) hp

/-- Those that lag still do behind a step of the plan. -/
theorem Lag.on (hS : Static ops.toList B) {i : Nat} {o : Oper} (ho : ops.toList[i]? = some o) {j : Nat} {p : Oper} (hp : ops.toList[j]? = some p) (hne : j ≠ i) (hDj : ∀ q, bit B j q = true → q ≠ i) {T' : List AV} (hT : ∀ t, o.dst ≠ some t → nth T' t = nth Tπ t)
    {h' : Heap} {seen' : List Seen} (hread : ∀ Tp v, cls p.op = .read → readK Alg.prop P h (evalO Tp) p.op (· = v) → (⟨j, p.op, Tp, v⟩ : Seen) ∈ seen → readK Alg.prop P h' (evalO Tp) p.op (· = v) ∧ (⟨j, p.op, Tp, v⟩ : Seen) ∈ seen')
    (hl : Lag P cl ops B T0 Tπ h seen j p) : Lag P cl ops B T0 T' h' seen' j p := by
  obtain ⟨Tp, e1, e2, e3⟩ := hl
  have hd : ∀ t, p.dst = some t → nth T' t = nth Tπ t := fun t ht => hT t fun hd => (hS.tmps j p t hp ht i o ho (fun e => hne e.symm)).1 hd
  refine ⟨Tp, e1, fun t ht => ⟨fun q r hq hr hrd => ?_, (e2 t ht).2⟩, ?_⟩
  · rw [(e2 t ht).1 q r hq hr hrd]
    refine (hT t fun hd => ?_).symm
    exact (hS.tmps q r t hr hrd i o ho (fun e => hDj q hq e.symm)).1 hd
  · rcases e3 with ⟨f1, f2⟩ | ⟨f1, v, f2, f3⟩
    · exact .inl ⟨f1, fun t ht htl => by rw [hd t ht]; exact f2 t ht htl⟩
    · refine .inr ⟨f1, v, ?_, fun t ht htl => by rw [hd t ht]; exact f3 t ht htl⟩
      rcases f2 with f2 | ⟨g1, g2, g3⟩
      · exact .inl f2
      · exact .inr ⟨g1, hread Tp v g1 g2 g3⟩

/-- The plan's next step is an act that the machine has yet to do. -/
def Normal (ops : Array Oper) (rem : List Nat) (L : Array Bool) : Prop := ∀ i rest, rem = i :: rest → actI ops.toList i ∧ ¬ Lis L i

theorem isNew_act {o : Oper} (h : isNew P o = true) : cls o.op = .act := by
  obtain ⟨t, cs, e, _⟩ := new_alloc h
  rw [e]; rfl

/-- On with the plan, as far as it goes. -/
theorem Inv.advance (hS : Static ops.toList B) : ∀ (rem : List Nat) {D : Nat → Prop} {Tπ : List AV} {h : Heap} {seen : List Seen} {bl : Nat → Nat} {K : KW}, Inv P cl sp call ops B T0 K0 h0 w0 ds Kc rem D Tπ h seen bl L a w K →
    ∃ rem' D' Tπ' h' seen' bl' K', Inv P cl sp call ops B T0 K0 h0 w0 ds Kc rem' D' Tπ' h' seen' bl' L a w K' ∧ Normal ops rem' L
  | [], D, Tπ, h, seen, bl, K, I => ⟨[], D, Tπ, h, seen, bl, K, I, fun i rest e => by cases e⟩
  | i :: rest, D, Tπ, h, seen, bl, K, I => by
    obtain ⟨o, ho, hD, hbD, hacts, hord⟩ := I.ord
    obtain ⟨hoa, hlt⟩ := ops_at ho
    have hk := I.hk
    have hk : openK Alg.prop P cl sp call ops.toList (stepOf ops.toList B i :: rest.map (stepOf ops.toList B)) Tπ h seen Kc := hk
    have hk : (match opAt ops.toList i with
      | none => False
      | some o => guardK Alg.prop ops.toList o.guard Tπ
        (fun tmps => openYes Alg.prop P cl sp call i (rowAt B i) o (openK Alg.prop P cl sp call ops.toList (rest.map (stepOf ops.toList B))) tmps h seen Kc)
        (fun tmps => openNo cl o (openK Alg.prop P cl sp call ops.toList (rest.map (stepOf ops.toList B))) tmps h seen Kc)) := hk
    rw [opAt_eq, ho] at hk
    simp only at hk
    rw [guardK_iff] at hk
    have hDdown : ∀ j, (j = i ∨ D j) → ∀ j', bit B j j' = true → (j' = i ∨ D j') := by
      rintro j (rfl | hj) j' hb
      · exact .inr (hbD j' hb)
      · exact .inr (I.Ddown j hj j' hb)
    -- a step that does nothing
    have quiet : cls o.op ≠ .act → ∀ T' seen', (∀ t, o.dst ≠ some t → nth T' t = nth Tπ t) → T'.length = Tπ.length → (∀ s ∈ seen, s ∈ seen') → Lag P cl ops B T0 T' h seen' i o →
        openK Alg.prop P cl sp call ops.toList (rest.map (stepOf ops.toList B)) T' h seen' Kc →
        Inv P cl sp call ops B T0 K0 h0 w0 ds Kc rest (fun j => j = i ∨ D j) T' h seen' bl L a w K := by
      intro hc T' seen' hT hTl hseen hlag hk
      have hiL : ¬ Lis L i := fun hl => by
        obtain ⟨t, cs, C, T, e1, _⟩ := I.ahead i o hl hD ho
        exact hc (by rw [e1]; rfl)
      refine ⟨hord, hDdown, hk, hTl.trans I.lenT, I.size, ?_, I.Lsize, I.Ldown, ?_, ?_, ?_, ?_, I.fresh, ?_, I.R, I.ext, I.defers⟩
      · intro t hno
        rw [hT t (hno i o (.inl rfl) ho)]
        exact I.init t fun j p hj hp => hno j p (.inr hj) hp
      · rintro j (rfl | hj) hact
        · obtain ⟨o', ho', hc'⟩ := hact
          cases ho.symm.trans ho'
          exact absurd hc' hc
        · exact I.acts j hj hact
      · intro j p hj hDj hp; exact I.ahead j p hj (fun h => hDj (.inr h)) hp
      · intro j j' hj hDj hj' hDj'; exact I.apart j j' hj (fun h => hDj (.inr h)) hj' (fun h => hDj' (.inr h))
      · rintro j p t hj (rfl | hDj) hp hd htl
        · exact absurd hj hiL
        · have : nth T' t = nth Tπ t := hT t fun hd' => (hS.tmps j p t hp hd i o ho (fun e => hD (e ▸ hDj))).1 hd'
          rw [this]
          exact I.wrote j p t hj hDj hp hd htl
      · rintro j p (rfl | hDj) hj hp
        · cases ho.symm.trans hp; exact hlag
        · exact Lag.on hS ho hp (fun e => hD (e ▸ hDj)) (fun q hq e => hD (e ▸ I.Ddown j hDj q hq)) hT (fun Tp v _ h1 h2 => ⟨h1, hseen _ h2⟩) (I.lag j p hDj hj hp)
    have hTp : ∀ T', (∀ t, o.dst ≠ some t → nth T' t = nth Tπ t) → ∀ t, .tmp t ∈ looksOf ops.toList o → (∀ j p, bit B i j = true → ops.toList[j]? = some p → p.dst = some t → nth Tπ t = nth T' t) ∧ ((∀ j p, bit B i j = true → ops.toList[j]? = some p → p.dst ≠ some t) → nth Tπ t = nth T0 t) := by
      intro T' hT t ht
      refine ⟨fun j p hj hp hd => (hT t fun hd' => ?_).symm, fun hno => I.init t fun j p hDj hp hd => ?_⟩
      · exact (hS.tmps j p t hp hd i o ho (fun e => hD (e ▸ hbD j hj))).1 hd'
      · have hne : i ≠ j := fun e => hD (e ▸ hDj)
        rcases (hS.tmps j p t hp hd i o ho hne).2 ht with hb | hb
        · exact hno j p hb hp hd
        · exact hD (I.Ddown j hDj i hb)
    have hput : ∀ (v : AV) t, o.dst ≠ some t → nth (putL Tπ o.dst v) t = nth Tπ t := fun v t ht => putL_other ht
    have hself : ∀ (v : AV) t, o.dst = some t → t < T0.length → nth (putL Tπ o.dst v) t = v := fun v t ht htl => by
      rw [ht]; exact putL_self (by rw [I.lenT]; exact htl)
    by_cases hc : cls o.op = .act
    · by_cases hiL : Lis L i
      · -- new memory that is there already
        obtain ⟨t, cs, C, T, e1, e2, e3, e4, e5, e6, e7, e8, e9⟩ := I.ahead i o hiL hD ho
        rw [e2] at hk
        have hk : openYes Alg.prop P cl sp call i (rowAt B i) o (openK Alg.prop P cl sp call ops.toList (rest.map (stepOf ops.toList B))) Tπ h seen Kc := hk
        unfold openYes at hk
        rw [hc] at hk
        simp only at hk
        have hk : actK Alg.prop P cl h (evalO Tπ) o (fun v h => putK cl (made (.alloc t)) Tπ o.dst v fun ts => checkReads Alg.prop P cl h (stillOpen (rowAt B i) seen) (openK Alg.prop P cl sp call ops.toList (rest.map (stepOf ops.toList B)) ts h (stillOpen (rowAt B i) seen) Kc)) := by
          unfold actsK at hk
          rw [e1] at hk
          exact hk
        unfold actK at hk
        rw [e1] at hk
        simp only [e3] at hk
        rw [Heap.newK_eq, putK_prop] at hk
        obtain ⟨hk, hreads⟩ := checkReads_spec hk
        have hR' := I.R.adopt e4 e5 e7 e8
        have hle : K.le (K.new h.next ⟨bl i, 0, C.size, 0, 0, false⟩) := KW.le_new I.R.fresh
        refine Inv.advance hS rest (D := fun j => j = i ∨ D j) (bl := bl) ⟨hord, hDdown, hk, putL_len.trans I.lenT, I.size, ?_, I.Lsize, I.Ldown, ?_, ?_, ?_, ?_, ?_, ?_, hR', I.ext.adopt I.R e6, I.defers⟩
        · intro t' hno
          rw [hput _ t' (hno i o (.inl rfl) ho)]
          exact I.init t' fun j p hj hp => hno j p (.inr hj) hp
        · rintro j (rfl | hj) hact
          · exact hiL
          · exact I.acts j hj hact
        · intro j p hj hDj hp
          have hji : j ≠ i := fun e => hDj (.inl e)
          have hDj' : ¬ D j := fun h => hDj (.inr h)
          obtain ⟨t', cs', C', T', f1, f2, f3, f4, f5, f6, f7, f8, f9⟩ := I.ahead j p hj hDj' hp
          refine ⟨t', cs', C', T', f1, f2, f3, f4, f5, f6, fun hB => ?_, f8, f9⟩
          rcases adopt_blocks I.R hB with e | hB
          · exact hji (I.apart j i hj hDj' hiL hD e)
          · exact f7 hB
        · intro j j' hj hDj hj' hDj'; exact I.apart j j' hj (fun h => hDj (.inr h)) hj' (fun h => hDj' (.inr h))
        · rintro j p t' hj (rfl | hDj) hp hd htl
          · cases ho.symm.trans hp
            rw [hself _ t' hd htl, e9 t' hd htl]
            exact ⟨_, KW.new_self, rfl, rfl⟩
          · rw [hput _ t' fun hd' => (hS.tmps j p t' hp hd i o ho (fun e => hD (e ▸ hDj))).1 hd']
            exact rel_mono hle _ _ (I.wrote j p t' hj hDj hp hd htl)
        · intro t' htl hno; exact rel_mono hle _ _ (I.fresh t' htl hno)
        · rintro j p (rfl | hDj) hj hp
          · exact absurd hiL hj
          · refine Lag.on hS ho hp (fun e => hD (e ▸ hDj)) (fun q hq e => hD (e ▸ I.Ddown j hDj q hq)) (hput _) (fun Tp v _ h1 h2 => ?_) (I.lag j p hDj hj hp)
            have hm := stillOpen_mem (bi := rowAt B i) (fun hb => hj (I.Ldown i hiL j hb)) h2
            exact ⟨hreads _ _ _ _ hm, hm⟩
      · refine ⟨i :: rest, D, Tπ, h, seen, bl, K, I, fun j rest' e => ?_⟩
        cases e
        exact ⟨⟨o, ho, hc⟩, hiL⟩
    · -- nothing is done
      cases hg : guardR ops.toList o.guard Tπ with
      | none => rw [hg] at hk; exact hk.elim
      | some r =>
        rw [hg] at hk
        cases r with
        | false =>
          have hk : openNo cl o (openK Alg.prop P cl sp call ops.toList (rest.map (stepOf ops.toList B))) Tπ h seen Kc := hk
          unfold openNo at hk
          rw [putK_prop] at hk
          exact Inv.advance hS rest (quiet hc _ seen (hput _) putL_len (fun _ h => h) ⟨Tπ, I.lenT, hTp _ (hput _), .inl ⟨hg, hself _⟩⟩ hk)
        | true =>
          have hk : openYes Alg.prop P cl sp call i (rowAt B i) o (openK Alg.prop P cl sp call ops.toList (rest.map (stepOf ops.toList B))) Tπ h seen Kc := hk
          unfold openYes at hk
          split at hk
          · rename_i hcp
            obtain ⟨v, hv, hF⟩ := det_pureK.at_ hk
            rw [putK_prop] at hv
            exact Inv.advance hS rest (quiet hc _ seen (hput _) putL_len (fun _ h => h) ⟨Tπ, I.lenT, hTp _ (hput _), .inr ⟨hg, v, .inl ⟨hcp, hF _ rfl⟩, hself _⟩⟩ hv)
          · rename_i hcr
            obtain ⟨v, hv, hF⟩ := det_readK.at_ hk
            rw [fD_eq, putK_prop] at hv
            exact Inv.advance hS rest (quiet hc _ (⟨i, o.op, Tπ, v⟩ :: seen) (hput _) putL_len (fun _ h => List.mem_cons_of_mem _ h) ⟨Tπ, I.lenT, hTp _ (hput _), .inr ⟨hg, v, .inr ⟨hcr, hF _ rfl, List.mem_cons_self⟩, hself _⟩⟩ hv)
          · rename_i hca; exact absurd hca hc

/-- The plan's next act. -/
theorem Inv.actStep (hG : Good P) (hsp : SpOk P sp) (hcall : CallSound P call) (hS : Static ops.toList B) {i : Nat} {rem' : List Nat} (I : Inv P cl sp call ops B T0 K0 h0 w0 ds Kc (i :: rem') D Tπ h seen bl L a w K) {o : Oper} (ho : ops.toList[i]? = some o) (hc : cls o.op = .act) (hL : ¬ Lis L i) (hbL : ∀ j, bit B i j = true → Lis L j)
    (b : Frame) (rest : List Nat) (k : List Item) (cs : List Frame) :
    ∃ v w' T' h' seen' K', Steps P (lone (b.atR a (.inRegion ops (i :: rest) :: k)) cs w) (lone (b.atR (a.put o.dst v) (.inRegion ops rest :: k)) cs w') ∧
      Inv P cl sp call ops B T0 K0 h0 w0 ds Kc rem' (fun j => j = i ∨ D j) T' h' seen' bl (L.setIfInBounds i true) (a.put o.dst v) w' K' := by
  obtain ⟨hoa, hlt⟩ := ops_at ho
  obtain ⟨o', ho', hD, hbD, hacts, hord⟩ := I.ord
  cases ho.symm.trans ho'
  have hk := I.hk
  have hk : openK Alg.prop P cl sp call ops.toList (stepOf ops.toList B i :: rem'.map (stepOf ops.toList B)) Tπ h seen Kc := hk
  have hk : (match opAt ops.toList i with
    | none => False
    | some o => guardK Alg.prop ops.toList o.guard Tπ
      (fun tmps => openYes Alg.prop P cl sp call i (rowAt B i) o (openK Alg.prop P cl sp call ops.toList (rem'.map (stepOf ops.toList B))) tmps h seen Kc)
      (fun tmps => openNo cl o (openK Alg.prop P cl sp call ops.toList (rem'.map (stepOf ops.toList B))) tmps h seen Kc)) := hk
  rw [opAt_eq, ho] at hk
  simp only at hk
  rw [guardK_iff] at hk
  have hlook := I.looks hS ho hD hL hbD hbL
  have hT : rels K (maskT (looksOf ops.toList o) Tπ) a.tmps.toList := mask_rels (by rw [I.size, I.lenT]) hlook
  have hg : guardR ops.toList o.guard (maskT (looksOf ops.toList o) Tπ) = guardR ops.toList o.guard Tπ := guardR_congr mask_len fun t ht => mask_in ht
  have hset : ∀ j, Lis (L.setIfInBounds i true) j ↔ j = i ∨ Lis L j := fun j => lis_set (by rw [I.Lsize]; exact hlt)
  have hDdown : ∀ j, (j = i ∨ D j) → ∀ j', bit B j j' = true → (j' = i ∨ D j') := by
    rintro j (rfl | hj) j' hb
    · exact .inr (hbD j' hb)
    · exact .inr (I.Ddown j hj j' hb)
  have hput : ∀ (v : AV) t, o.dst ≠ some t → nth (putL Tπ o.dst v) t = nth Tπ t := fun v t ht => putL_other ht
  have hself : ∀ (v : AV) t, o.dst = some t → t < T0.length → nth (putL Tπ o.dst v) t = v := fun v t ht htl => by
    rw [ht]; exact putL_self (by rw [I.lenT]; exact htl)
  have finish : ∀ (v : Value) (av : AV) (w' : World) (h' : Heap) (K' : KW) (seen' : List Seen), Go.Tw.R K' h' w' → Ext K h w K' h' w' → rel K' av v →
      openK Alg.prop P cl sp call ops.toList (rem'.map (stepOf ops.toList B)) (putL Tπ o.dst av) h' seen' Kc →
      (∀ j p, D j → ¬ Lis L j → ops.toList[j]? = some p → ∀ Tp v, cls p.op = .read → readK Alg.prop P h (evalO Tp) p.op (· = v) → (⟨j, p.op, Tp, v⟩ : Seen) ∈ seen → readK Alg.prop P h' (evalO Tp) p.op (· = v) ∧ (⟨j, p.op, Tp, v⟩ : Seen) ∈ seen') →
      Inv P cl sp call ops B T0 K0 h0 w0 ds Kc rem' (fun j => j = i ∨ D j) (putL Tπ o.dst av) h' seen' bl (L.setIfInBounds i true) (a.put o.dst v) w' K' := by
    intro v av w' h' K' seen' hR' hE' hv hk hread
    refine ⟨hord, hDdown, hk, putL_len.trans I.lenT, by rw [put_size, I.size], ?_, by simp [I.Lsize], ?_, ?_, ?_, ?_, ?_, ?_, ?_, hR', I.ext.trans hE', by rw [put_defers, I.defers]⟩
    · intro t' hno
      rw [hput _ t' (hno i o (.inl rfl) ho)]
      exact I.init t' fun j p hj hp => hno j p (.inr hj) hp
    · intro j hj j' hb
      rw [hset] at hj ⊢
      rcases hj with rfl | hj
      · exact .inr (hbL j' hb)
      · exact .inr (I.Ldown j hj j' hb)
    · rintro j (rfl | hj) hact
      · rw [hset]; exact .inl rfl
      · rw [hset]; exact .inr (I.acts j hj hact)
    · intro j p hj hDj hp
      have hji : j ≠ i := fun e => hDj (.inl e)
      have hDj' : ¬ D j := fun h => hDj (.inr h)
      rw [hset] at hj
      rcases hj with rfl | hj
      · exact absurd rfl hji
      obtain ⟨t', cs', C', T', f1, f2, f3, f4, f5, f6, f7, f8, f9⟩ := I.ahead j p hj hDj' hp
      have hb : bl j < w.heap.size := (Array.getElem?_eq_some_iff.1 f5).1
      refine ⟨t', cs', C', T', f1, f2, f3, f4, (hE'.keep _ hb f7).trans f5, f6, fun hB => f7 (hE'.own _ hb hB), (hE'.stable _ hb f7).trans f8, fun d hd hdl => ?_⟩
      rw [put_other, f9 d hd hdl]
      exact (hS.tmps j p d hp hd i o ho (fun e => hji e.symm)).1
    · intro j j' hj hDj hj' hDj' e
      rw [hset] at hj hj'
      rcases hj with rfl | hj
      · exact absurd (.inl rfl) hDj
      rcases hj' with rfl | hj'
      · exact absurd (.inl rfl) hDj'
      exact I.apart j j' hj (fun h => hDj (.inr h)) hj' (fun h => hDj' (.inr h)) e
    · intro j p t' hj hDj hp hd htl
      by_cases hji : j = i
      · subst hji
        cases ho.symm.trans hp
        rw [hself _ t' hd htl, hd, put_self (by rw [I.size]; exact htl)]
        exact hv
      · rw [hset] at hj
        rcases hj with rfl | hj
        · exact absurd rfl hji
        rcases hDj with rfl | hDj
        · exact absurd rfl hji
        have hod := (hS.tmps j p t' hp hd i o ho (fun e => hji e.symm)).1
        rw [hput _ t' hod, put_other hod]
        exact rel_mono hE'.le _ _ (I.wrote j p t' hj hDj hp hd htl)
    · intro t' htl hno
      rw [put_other (hno i o ((hset i).2 (.inl rfl)) ho)]
      exact rel_mono hE'.le _ _ (I.fresh t' htl fun j p hj hp => hno j p ((hset j).2 (.inr hj)) hp)
    · intro j p hDj hj hp
      have hji : j ≠ i := fun e => hj ((hset j).2 (.inl e))
      have hjL : ¬ Lis L j := fun h => hj ((hset j).2 (.inr h))
      rcases hDj with hDj | hDj
      · exact absurd hDj hji
      exact Lag.on hS ho hp hji (fun q hq e => hD (e ▸ I.Ddown j hDj q hq)) (hput _) (hread j p hDj hjL hp) (I.lag j p hDj hjL hp)
  cases hgr : guardR ops.toList o.guard Tπ with
  | none => rw [hgr] at hk; exact hk.elim
  | some r =>
    rw [hgr] at hk
    cases r with
    | false =>
      have hk : openNo cl o (openK Alg.prop P cl sp call ops.toList (rem'.map (stepOf ops.toList B))) Tπ h seen Kc := hk
      unfold openNo at hk
      rw [putK_prop] at hk
      have hw : Region.wanted o (yielded ops a.tmps) = false := guardR_wanted hT (hg.trans hgr)
      refine ⟨undef, w, _, h, seen, K, .one ?_, finish undef (.tup []) w h K seen I.R (.refl _ _ _) ⟨#[], rfl, rfl⟩ hk fun j p _ _ _ Tp v _ h1 h2 => ⟨h1, h2⟩⟩
      have := stepR_op_skip (P := P) (b := b) (a := a) (k := k) (cs := cs) (w := w) (ops := ops) (i := i) (rest := rest) (by rw [hoa]; exact hw)
      rw [hoa] at this
      exact this
    | true =>
      have hk : openYes Alg.prop P cl sp call i (rowAt B i) o (openK Alg.prop P cl sp call ops.toList (rem'.map (stepOf ops.toList B))) Tπ h seen Kc := hk
      unfold openYes at hk
      rw [hc] at hk
      simp only at hk
      have hw : Region.wanted o (yielded ops a.tmps) = true := guardR_wanted hT (hg.trans hgr)
      have hnd : ∀ c, o.op ≠ .defer c := fun c e => by
        unfold actsK at hk
        rw [e] at hk
        unfold actK at hk
        rw [e] at hk
        exact hk
      rw [actsK_congr (mask_eval (ops := ops.toList))] at hk
      obtain ⟨v, K', h', w', av, s, r1, r2, r3, r4⟩ := acts_sound (b := b) (rest := rest) (k := k) (cs := cs) hG hsp hcall hoa hw hnd I.R hT hk
      rw [putK_prop] at r4
      obtain ⟨hk, hreads⟩ := checkReads_spec r4
      refine ⟨v, w', _, h', _, K', s, finish v av w' h' K' _ r1 r2 r3 hk fun j p hDj hjL hp Tp v _ h1 h2 => ?_⟩
      have hm := stillOpen_mem (bi := rowAt B i) (fun hb => hjL (hbL j hb)) h2
      exact ⟨hreads _ _ _ _ hm, hm⟩

/-- Whatever the order. -/
theorem Inv.go (hG : Good P) (hsp : SpOk P sp) (hcall : CallSound P call) (hS : Static ops.toList B) (b : Frame) (k : List Item) (cs : List Frame) (md : Region.Mode) : ∀ (n t : Nat) {rem : List Nat} {D : Nat → Prop} {Tπ : List AV} {h : Heap} {seen : List Seen} {bl : Nat → Nat} {L : Array Bool} {a : Act} {w : World} {K : KW},
    unl L ops.size ≤ n → Inv P cl sp call ops B T0 K0 h0 w0 ds Kc rem D Tπ h seen bl L a w K →
    ∃ ts a' K' h' w', Steps P (lone (b.atR a (.inRegion ops (Region.linearise.go md ops n t L []) :: k)) cs w) (lone (b.atR a' k) cs w') ∧ Go.Tw.R K' h' w' ∧ Ext K0 h0 w0 K' h' w' ∧ rels K' ts a'.tmps.toList ∧ a'.defers = ds ∧ Kc ts h' := by
  have done : ∀ {rem : List Nat} {D : Nat → Prop} {Tπ : List AV} {h : Heap} {seen : List Seen} {bl : Nat → Nat} {L : Array Bool} {a : Act} {w : World} {K : KW}, (∀ i, i < ops.size → Lis L i) → Inv P cl sp call ops B T0 K0 h0 w0 ds Kc rem D Tπ h seen bl L a w K →
      ∃ ts a' K' h' w', Steps P (lone (b.atR a (.inRegion ops [] :: k)) cs w) (lone (b.atR a' k) cs w') ∧ Go.Tw.R K' h' w' ∧ Ext K0 h0 w0 K' h' w' ∧ rels K' ts a'.tmps.toList ∧ a'.defers = ds ∧ Kc ts h' := by
    intro rem D Tπ h seen bl L a w K hall I
    obtain ⟨rem', D', Tπ', h', seen', bl', K', I', hN⟩ := I.advance hS
    cases rem' with
    | cons i rest =>
      obtain ⟨⟨o, ho, _⟩, hl⟩ := hN i rest rfl
      exact absurd (hall i (ops_at ho).2) hl
    | nil =>
      have hDall : ∀ i, i < ops.size → D' i := fun i hi => I'.ord i (by simpa using hi)
      refine ⟨Tπ', a, K', h', w, .one stepR_region_end, I'.R, I'.ext, rels_of (by rw [Array.length_toList, I'.size, I'.lenT]) fun t ht => ?_, I'.defers, I'.hk⟩
      rw [I'.lenT] at ht
      rw [Array.getElem?_toList, ← Array.getD_eq_getD_getElem?]
      by_cases hw : ∃ (i : Nat) (o : Oper), ops.toList[i]? = some o ∧ o.dst = some t
      · obtain ⟨i, o, ho, hd⟩ := hw
        exact I'.wrote i o t (hall i (ops_at ho).2) (hDall i (ops_at ho).2) ho hd ht
      · rw [I'.init t fun i o _ ho hd => hw ⟨i, o, ho, hd⟩]
        exact I'.fresh t ht fun i o _ ho hd => hw ⟨i, o, ho, hd⟩
  intro n
  induction n with
  | zero =>
    intro t rem D Tπ h seen bl L a w K hn I
    have : Region.linearise.go md ops 0 t L [] = [] := rfl
    rw [this]
    exact done (unl_zero I.Lsize (Nat.le_zero.1 hn)) I
  | succ n ih =>
    intro t rem D Tπ h seen bl L a w K hn I
    rw [go_succ]
    cases hr : (Region.ready md ops L)[t % (Region.ready md ops L).length]? with
    | none =>
      have hnil : Region.ready md ops L = [] := by
        cases hr' : Region.ready md ops L with
        | nil => rfl
        | cons x xs =>
          rw [hr'] at hr
          have hlt : t % (x :: xs).length < (x :: xs).length := Nat.mod_lt _ (by simp)
          rw [List.getElem?_eq_none_iff] at hr
          omega
      exact done (ready_nil hS I.Lsize hnil) I
    | some i =>
      have hi := List.mem_of_getElem? hr
      rw [mem_ready] at hi
      obtain ⟨hul, o, hoa, hed⟩ := hi
      have hlt : i < ops.size := (Array.getElem?_eq_some_iff.1 hoa).1
      have ho : ops.toList[i]? = some o := by rw [Array.getElem?_toList]; exact hoa
      have hL : ¬ Lis L i := (lis_true (by rw [I.Lsize]; exact hlt)).1 hul
      have hbL : ∀ j, bit B i j = true → Lis L j := by
        intro j hj
        obtain ⟨e, he, hb, h1⟩ := (hS.edged.iff i o ho j).1 hj
        have : Lis L e.on := hed e (Array.mem_toList_iff.1 he) (binds_any hb)
        rcases h1 with rfl | h1
        · exact this
        · exact I.Ldown e.on this j h1
      have hcount : unl (L.setIfInBounds i true) ops.size ≤ n := by
        have := unl_set I.Lsize hlt hL
        omega
      simp only
      obtain ⟨rem', D', Tπ', h', seen', bl', K', I', hN⟩ := I.advance hS
      by_cases hD : D' i
      · obtain ⟨v, s, I2⟩ := I'.lagStep hS ho hD hL hbL b (Region.linearise.go md ops n (t / (Region.ready md ops L).length) (L.setIfInBounds i true) []) k cs
        obtain ⟨ts, a', K2, h2, w2, s2, r⟩ := ih (t / (Region.ready md ops L).length) hcount I2
        exact ⟨ts, a', K2, h2, w2, .head s s2, r⟩
      · cases rem' with
        | nil => exact absurd (I'.ord i (by simpa using hlt)) hD
        | cons j rest =>
          obtain ⟨hact, hjL⟩ := hN j rest rfl
          by_cases hij : i = j
          · subst hij
            obtain ⟨o', ho', hc⟩ := hact
            cases ho.symm.trans ho'
            obtain ⟨v, w', T2, h2, seen2, K2, s, I2⟩ := I'.actStep hG hsp hcall hS ho hc hL hbL b (Region.linearise.go md ops n (t / (Region.ready md ops L).length) (L.setIfInBounds i true) []) k cs
            obtain ⟨ts, a', K3, h3, w3, s3, r⟩ := ih (t / (Region.ready md ops L).length) hcount I2
            exact ⟨ts, a', K3, h3, w3, s.trans s3, r⟩
          · -- it stands behind the plan's next act
            have key : ∀ (is : List Nat) (D : Nat → Prop), OrdP P ops.toList B is D → D j → ¬ D i → isNew P o = true ∨ bit B i j = true := by
              intro is
              induction is with
              | nil => intro D ho2 _ hDi; exact absurd (ho2 i (by simpa using hlt)) hDi
              | cons x is ih2 =>
                intro D ho2 hDj hDi
                obtain ⟨ox, hox, h1, h2, h3, h4⟩ := ho2
                by_cases hxi : x = i
                · subst hxi
                  cases ho.symm.trans hox
                  exact h3.imp id fun h3 => h3 j hDj hact
                · exact ih2 _ h4 (.inr hDj) (fun h => h.elim (fun e => hxi e.symm) hDi)
            obtain ⟨oj, hoj, g1, g2, g3, g4⟩ := I'.ord
            rcases key rest _ g4 (.inl rfl) (fun h => h.elim hij hD) with hn' | hb
            · obtain ⟨v, w', bl2, s, I2⟩ := I'.newStep hS ho hn' hD hL hbL b (Region.linearise.go md ops n (t / (Region.ready md ops L).length) (L.setIfInBounds i true) []) k cs
              obtain ⟨ts, a', K2, h2, w2, s2, r⟩ := ih (t / (Region.ready md ops L).length) hcount I2
              exact ⟨ts, a', K2, h2, w2, .head s s2, r⟩
            · exact absurd (hbL j hb) hjL

/-- Regions whose order is open are sound. -/
theorem open_ok (hG : Good P) (hsp : SpOk P sp) : OpenOk P cl sp := by
  intro call hcall ops plan tmps h Kc hplan hk K w b a cs k t hR ht
  obtain ⟨B, order, rfl, hS, hord⟩ := planOf_spec hplan
  obtain ⟨md, t', hsch⟩ := schedule_md (P.follows .mixedOrders) ops t
  rw [hsch]
  have hlen := rels_len ht
  rw [Array.length_toList] at hlen
  refine Inv.go (cl := cl) (B := B) (T0 := tmps) (K0 := K) (h0 := h) (w0 := w) (ds := a.defers) hG hsp hcall hS b k cs md ops.size t' (rem := order) (D := fun _ => False) (Tπ := tmps) (h := h) (seen := []) (bl := fun _ => 0) (L := Array.replicate ops.size false) (a := a) (w := w) (K := K) ?_ ?_
  · unfold unl
    refine Nat.le_trans List.countP_le_length ?_
    simp
  · have hno : ∀ i, ¬ Lis (Array.replicate ops.size false) i := by
      intro i hi
      have := lis_lt hi
      simp at this
      simp [Lis, this] at hi
    refine ⟨hord, fun i hi => hi.elim, hk, rfl, hlen, fun _ _ => rfl, by simp, fun i hi => absurd hi (hno i), fun i hi => hi.elim, fun i _ hi => absurd hi (hno i), fun i _ hi => absurd hi (hno i), fun i _ _ hi => absurd hi (hno i), fun t _ _ => ?_, fun i _ hi => hi.elim, hR, .refl _ _ _, rfl⟩
    have := nth_rel ht t
    rwa [Array.getElem?_toList, ← Array.getD_eq_getD_getElem?] at this

end main
end Go.Tw

/- Calls that are known: what is proved of a function once stands for all its calls. -/
namespace Go.Tw
open Go

variable {P : Program} {K K' : KW} {h h' : Heap} {w w' : World} {sp : Specs Prop}

theorem calls_of (hG : Good P) (hsp : SpOk P sp) {cl : Bool} {n : Nat} {f : FuncId} {args : List AV} {vs : Array Value} {Kc : AV → Heap → Prop} (hk : call Alg.prop P cl sp n f args h Kc) (hR : R K h w) (ha : rels K args vs.toList) : CallsTo P K h w f vs Kc :=
  call_ok hG hsp (open_ok hG hsp) hk hR ha

theorem CallsTo.mono {f : FuncId} {vs : Array Value} {Q Q' : AV → Heap → Prop} (h1 : CallsTo P K h w f vs Q) (h2 : ∀ v h, Q v h → Q' v h) : CallsTo P K h w f vs Q' := by
  intro kind cs
  obtain ⟨v, K', h', w', av, fr, s, l, r1, r2, r3, r4⟩ := h1 kind cs
  exact ⟨v, K', h', w', av, fr, s, l, r1, r2, r3, h2 _ _ r4⟩

mutual
/-- A value that hangs on no memory that changes. -/
def flat : AV → Bool
  | .i _ _ | .u _ _ | .bool _ | .str _ | .nilptr | .iptr _ _ _ | .nilsl | .imm _ _ _ _ | .nilmap | .nilfn | .barr _ _ | .undef => true
  | .ptr _ _ | .rptr _ _ _ | .slr _ _ _ _ _ _ _ _ | .slc _ _ _ _ _ _ | .map _ | .yld _ => false
  | .fn _ a b => flats a && flats b
  | .agg cs => flats cs
  | .tup vs => flats vs
def flats : List AV → Bool
  | [] => true
  | v :: vs => flat v && flats vs
end

theorem relC_iff {p q : Value → Prop} {a : AV} {us : List Value} (h : ∀ v, p v → q v) (r : relC p a us) : relC q a us := relC_imp h r

mutual
theorem rel_flat {β : Nat → Option Loc} : ∀ {a : AV} {v : Value}, flat a = true → rel K a v → rel ⟨β, K.S⟩ a v
  | .i _ _, _, _, r => r
  | .u _ _, _, _, r => r
  | .bool _, _, _, r => r
  | .str _, _, _, r => r
  | .nilptr, _, _, r => r
  | .iptr _ _ _, _, _, r => r
  | .nilsl, _, _, r => r
  | .imm _ _ _ _, _, _, r => r
  | .nilmap, _, _, r => r
  | .nilfn, _, _, r => r
  | .barr _ _, _, _, r => r
  | .undef, _, _, r => r
  | .ptr _ _, _, h, _ => by simp [flat] at h
  | .rptr _ _ _, _, h, _ => by simp [flat] at h
  | .slr _ _ _ _ _ _ _ _, _, h, _ => by simp [flat] at h
  | .slc _ _ _ _ _ _, _, h, _ => by simp [flat] at h
  | .map _, _, h, _ => by simp [flat] at h
  | .yld _, _, h, _ => by simp [flat] at h
  | .fn _ a b, _, h, ⟨x, y, e, r1, r2⟩ => by
    simp only [flat, Bool.and_eq_true] at h
    exact ⟨x, y, e, rels_flat h.1 r1, rels_flat h.2 r2⟩
  | .agg cs, _, h, ⟨a, e, r⟩ => by
    simp only [flat] at h
    exact ⟨a, e, relCs_flat h r⟩
  | .tup vs, _, h, ⟨a, e, r⟩ => by
    simp only [flat] at h
    exact ⟨a, e, rels_flat h r⟩
theorem rels_flat {β : Nat → Option Loc} : ∀ {as : List AV} {vs : List Value}, flats as = true → rels K as vs → rels ⟨β, K.S⟩ as vs
  | [], _, _, r => r
  | a :: as, _, h, ⟨v, ws, e, r1, r2⟩ => by
    simp only [flats, Bool.and_eq_true] at h
    exact ⟨v, ws, e, rel_flat h.1 r1, rels_flat h.2 r2⟩
theorem relCs_flat {β : Nat → Option Loc} : ∀ {as : List AV} {vs : List Value}, flats as = true → relCs K as vs → relCs ⟨β, K.S⟩ as vs
  | [], _, _, r => r
  | a :: as, _, h, ⟨us, ws, e, r1, r2⟩ => by
    simp only [flats, Bool.and_eq_true] at h
    exact ⟨us, ws, e, relC_imp (fun v hv => rel_flat h.1 hv) r1, relCs_flat h.2 r2⟩
end

theorem get_nil (id : Nat) : (⟨0, .nil⟩ : Heap).get id = none := Tr.get_nil id

/-- Nothing of memory is one's own. -/
theorem R.empty (hR : R K h w) : R ⟨fun _ => none, K.S⟩ ⟨0, .nil⟩ w :=
  ⟨(fun id x hg => by rw [get_nil] at hg; cases hg), (fun id id' x y L L' hg => by rw [get_nil] at hg; cases hg), (fun id L hL => by cases hL), hR.stab,
    (fun id x L hg => by rw [get_nil] at hg; cases hg), (fun m ka va κ τ es id left last hg => by rw [get_nil] at hg; cases hg)⟩

theorem no_blocks {β : Nat → Option Loc} {S : Nat → Option (Array Value)} (b : Nat) : ¬ Blocks ⟨β, S⟩ ⟨0, .nil⟩ b := by
  rintro ⟨id, x, L, hg, _⟩
  rw [get_nil] at hg; cases hg

/-- What had nothing of memory for its own has left all as it was. -/
theorem R.framed (hR : R K h w) (hR' : R K' h' w') (hE : Ext ⟨fun _ => none, K.S⟩ ⟨0, .nil⟩ w K' h' w') : R ⟨K.β, K'.S⟩ h w' ∧ Ext K h w ⟨K.β, K'.S⟩ h w' := by
  have hle : K.le ⟨K.β, K'.S⟩ := ⟨fun _ _ h => h, hE.le.S⟩
  have same : ∀ b, b < w.heap.size → w'.heap[b]? = w.heap[b]? := fun b hb => hE.keep b hb (no_blocks b)
  refine ⟨⟨?_, hR.inj, hR.dom, hR'.stab, ?_, hR.iters⟩, ⟨hle, hE.size, fun b hb _ => same b hb, fun _ _ hb => hb, Nat.le_refl _, hE.os, hE.output, hE.tape, fun b hb _ => hE.stable b hb (no_blocks b)⟩⟩
  · intro id x hg
    obtain ⟨L, hL, hb⟩ := hR.live _ _ hg
    refine ⟨L, hL, blkRel_frame hle hb (fun hv => same _ (blkRel_bound hb hv)) ?_⟩
    rintro ka va κ τ es id' left last rfl L2 hL2
    exact same _ (iter_bound hb hL2)
  · intro id x L hg hL hv
    obtain ⟨L', hL', hb⟩ := hR.live _ _ hg
    cases hL.symm.trans hL'
    show K'.S L.b = none
    rw [hE.stable _ (blkRel_bound hb hv) (no_blocks _)]
    exact hR.sep _ _ _ hg hL hv

/-- A run of the plain machine. -/
structure Runs (P : Program) (sp : Specs Prop) (cl : Bool) (n : Nat) (f : FuncId) (args : List AV) (h : Heap) (Kc : AV → Heap → Prop) : Prop where
  run : call Alg.prop P cl sp n f args h Kc

theorem Runs.of {cl : Bool} {n : Nat} {f : FuncId} {args : List AV} {Kc : AV → Heap → Prop} {q : Prop} (hk : call Alg.prop P cl sp n f args h Kc = q) (hq : q) : Runs P sp cl n f args h Kc := ⟨hk ▸ hq⟩

/-- A call that hangs on its arguments alone. -/
theorem Runs.pure (hG : Good P) (hsp : SpOk P sp) {cl : Bool} {n : Nat} {f : FuncId} {args : List AV} {r : AV} (hk : Runs P sp cl n f args ⟨0, .nil⟩ (fun v _ => v = r)) (hf : flats args = true) (hr : flat r = true)
    {vs : Array Value} {Kc : AV → Heap → Prop} (hR : R K h w) (ha : rels K args vs.toList) (hc : Kc r h) : CallsTo P K h w f vs Kc := by
  intro kind cs
  obtain ⟨v, K', h', w', av, fr, s, l, r1, r2, r3, r4⟩ := calls_of hG hsp hk.run hR.empty (rels_flat hf ha) kind cs
  subst r4
  obtain ⟨q1, q2⟩ := hR.framed r2 r3
  exact ⟨v, _, h, w', av, fr, s, l, rel_flat hr r1, q1, q2, hc⟩

/-- A call, as the kit has it. -/
theorem CallsTo.calls {f : FuncId} {vs : Array Value} {Q : AV → Heap → Prop} (hc : CallsTo P K h w f vs Q) : Calls P f vs w fun e w' => ∃ v K' h' av, e = .returned v ∧ rel K' av v ∧ R K' h' w' ∧ Ext K h w K' h' w' ∧ Q av h' := by
  intro cs
  obtain ⟨v, K', h', w', av, fr, s, ⟨l1, l2, l3, l4, l5⟩, r1, r2, r3, r4⟩ := hc .normal cs
  refine ⟨.returned v, w', fr, ⟨v, K', h', av, rfl, r1, r2, r3, r4⟩, s, l4, l1, l2, l3, ?_⟩
  obtain ⟨fn, h1, h2⟩ := l5
  exact ⟨fn, l4 ▸ h1, h2⟩

theorem SpOk.nil : SpOk P (fun _ => Option.none) := fun _ _ h => by cases h

/-- One more function is known. -/
def Specs.add (sp : Specs Prop) (g : FuncId) (s : List AV → Heap → (AV → Heap → Prop) → Prop) : Specs Prop := fun f => match Nat.beq f g with
  | true => some s
  | false => sp f

theorem SpOk.add (hsp : SpOk P sp) {g : FuncId} {s : List AV → Heap → (AV → Heap → Prop) → Prop} (hb : (match P.funcs[g]? with | some fn => fn.body.isSome | none => false) = true)
    (hs : ∀ args h Kc, s args h Kc → ∀ K w (vs : Array Value), R K h w → rels K args vs.toList → CallsTo P K h w g vs Kc) : SpOk P (sp.add g s) := by
  intro f s' he
  unfold Specs.add at he
  split at he
  · rename_i hfg
    have : f = g := Nat.eq_of_beq_eq_true hfg
    subst this
    cases he
    refine ⟨?_, hs⟩
    split at hb
    · rename_i fn hfn; exact ⟨fn, hfn, hb⟩
    · cases hb
  · exact hsp f s' he

/-- All numbers below one. -/
def belowAll (f : Nat → Prop) (n : Nat) : Prop := Nat.rec True (fun i ih => f i ∧ ih) n
def belowEach (f : Nat → Prop) (n : Nat) : Prop := Nat.rec True (fun i ih => f i ∧ ih) n

theorem belowAll_at {f : Nat → Prop} : ∀ {n : Nat}, belowAll f n → ∀ i, i < n → f i
  | n + 1, h, i, hi => by
    have h : f n ∧ belowAll f n := h
    by_cases e : i = n
    · rw [e]; exact h.1
    · exact belowAll_at h.2 i (by omega)

theorem belowEach_of {f : Nat → Prop} (h : ∀ i, f i) : ∀ n, belowEach f n
  | 0 => trivial
  | n + 1 => ⟨h n, belowEach_of h n⟩

end Go.Tw

/- From runs of the plain machine to calls that a statement speaks of. -/
namespace Go.Tw
open Go Go.RowKit Go.WideShapes Go.ChangeShapes

section
variable {H : Type} {enc : TypeId × Value → H} {P : Program}
theorem post_of_below {f : Func} {s : ChangeSpec} {apart fresh handsOn again : Bool} {W W' : World} {args : Array Value} {v : Value} {ds gs : List (DataW H)} {before pa pv : List MemPlace}
    (hW : DataW.Whole enc P f.params.toList s.vars apart W args.toList ds gs before)
    (hres : ∀ (b : Nat) (sp : Nat → Bool) (hd : Bool), DataW.TrodAll enc P W' b sp hd f.resultTypes.toList (v.resultList f.resultTypes.size) (s.fn H (ds ++ gs)).results [])
    (hargs : ∀ sp : Nat → Bool, (∀ p ∈ before, sp p.block = true) → DataW.TrodAll enc P W' 0 sp true f.params.toList args.toList (s.fn H (ds ++ gs)).args pa)
    (hvars : ∀ sp : Nat → Bool, (∀ p ∈ before, sp p.block = true) → DataW.TrodVars enc P W' sp s.vars (s.fn H (ds ++ gs)).vars pv)
    (hps : before = pa ++ pv) (hb : Below W.heap.size W W')
    (hok : ∀ (j : Nat) (t : TypeId) (r : Value), f.resultTypes[j]? = some t → (v.resultList f.resultTypes.size)[j]? = some r → Value.okWide P W' .any 0 t r) :
    s.post enc P f apart fresh handsOn again W args v W' := by
  have hlt : ∀ p ∈ before, p.block < W.heap.size := fun p hp => hW.lt p hp
  have hold : ∀ p ∈ before, (fun b => decide (b < W.heap.size)) p.block = true := fun p hp => by simpa using hlt p hp
  refine ⟨ds, gs, before, [], pa, pv, hW, hres _ _ _, hargs _ hold, hvars _ hold, World.keptBut_mono (fun p hp => ⟨hp, ?_⟩) (hb.frame (· ∈ before)), fun _ => ?_⟩
  · rw [hps, List.mem_append] at hp
    exact Or.inr hp
  · obtain ⟨_, _, _, _, _, hz, hn⟩ := hW
    refine ⟨hok, _, _, ([] ++ pa) ++ pv, ⟨[] ++ pa, pv, trodAll_append (hargs _ (fun _ _ => rfl)) (hres _ _ _), hvars _ (fun _ _ => rfl), rfl, ?_, ?_⟩, ?_⟩
    · intro b off hp
      have hin : MemPlace.cell b off ∈ before := by rw [hps]; simpa using hp
      rw [hb.frozen (hlt _ hin)]
      exact hz b off hin
    · intro ha
      have := hn ha
      rw [hps] at this
      simpa using this
    · intro p hp _
      rw [hps]
      simpa using hp
end

/-- Nothing is one's own at the start. -/
theorem R.start (w : World) : R ⟨fun _ => none, fun _ => none⟩ ⟨0, .nil⟩ w :=
  ⟨(fun id x hg => by rw [get_nil] at hg; cases hg), (fun id id' x y L L' hg => by rw [get_nil] at hg; cases hg), (fun id L hL => by cases hL), (fun b C hs => by cases hs),
    (fun id x L hg => by rw [get_nil] at hg; cases hg), (fun m ka va κ τ es id left last hg => by rw [get_nil] at hg; cases hg)⟩

theorem Ext.below {K' : KW} {h' : Heap} {w w' : World} {S : Nat → Option (Array Value)} (hE : Ext ⟨fun _ => none, S⟩ ⟨0, .nil⟩ w K' h' w') : Below w.heap.size w w' :=
  ⟨hE.os, hE.tape, hE.output, hE.size, fun k hk => hE.keep k hk (no_blocks k)⟩

/-- A law whose arguments hang on no memory that changes. -/
theorem Runs.law {P : Program} {sp : Specs Prop} (hG : Good P) (hsp : SpOk P sp) {cl : Bool} {n : Nat} {f : FuncId} {args : List AV} (hk : Runs P sp cl n f args ⟨0, .nil⟩ (fun v _ => v = .bool true)) {S : Nat → Option (Array Value)} {w : World}
    (hR : R ⟨fun _ => none, S⟩ ⟨0, .nil⟩ w) {vs : Array Value} (ha : rels ⟨fun _ => none, S⟩ args vs.toList) : Calls P f vs w fun e w' => e = .returned (.bool true) ∧ Below w.heap.size w w' := by
  refine (calls_of hG hsp hk.run hR ha).calls.mono ?_
  rintro e w' ⟨v, K', h', av, rfl, hr, _, hE, rfl⟩
  exact ⟨by rw [show v = .bool true from hr], hE.below⟩

end Go.Tw

/- A row's closed facts, one by one. -/
namespace Go.Tw
open Go

theorem joined_of {P : Program} {f : FuncId} {fn : Func} {s : ChangeSpec} {c : OpenClaim}
    (h0 : (c.wf (OpenSpec.ofChange s)) = true)
    (h1 : (laidOutB P) = true)
    (h2 : (mapsRowed P) = true)
    (h3 : (fn.params.all (P.readableRec ·)) = true)
    (h4 : (namedTie P c.named s.vars) = true)
    (h5 : ((c.stops == [])) = true)
    (h6 : ((P.stops == [])) = true)
    (h7 : ((c.knobs == [])) = true)
    (h8 : ((P.stopKnobs == [])) = true)
    (h9 : ((c.inPlace == P.inPlace f)) = true)
    (h10 : ((c.unfollowed == P.unfollowed f)) = true)
    (h11 : ((c.recurses == P.recurses f)) = true)
    (h12 : ((c.named == P.varsNamed f)) = true)
    (h13 : ((c.maps == (fn.params.toList ++ s.plain.varTypes P).any (P.mapsRec ·))) = true)
    (h14 : ((c.ifaces == (fn.params.toList ++ s.plain.varTypes P).any (P.ifacesRec ·))) = true)
    (h15 : ((c.mapsOut == P.mapsAmong fn.resultTypes.toList)) = true)
    (h16 : ((c.loops == (fn.params.toList ++ s.plain.varTypes P).any (P.loopsFrom ·))) = true)
    (h17 : ((c.wideKeys == (fn.params.toList ++ s.plain.varTypes P ++ fn.resultTypes.toList).any (P.wideKeysFrom ·))) = true)
    (h18 : (s.vars.all (P.varReadable ·)) = true)
    (h19 : (fn.resultTypes.all (fun t => P.readableRec t && decide (t < P.types.size))) = true)
    (h20 : ((c.ifacesOut == fn.resultTypes.toList.any (P.ifacesRec ·))) = true)
    (h21 : ((c.loopsOut == fn.resultTypes.toList.any (P.loopsFrom ·))) = true)
    (h22 : ((c.plainKeys == P.plainKeys)) = true)
    (h23 : (c.shortTexts.isNone) = true)
    (h24 : (P.stopsHeard) = true)
    (h25 : (P.mayEnter) = true)
    (h26 : ((c.lifted == P.liftsFinal)) = true)
    (h27 : ((P.make == some c.make)) = true)
    (h28 : ((c.kinds == (if c.domain.isEmpty then [] else fn.params.toList.map fun t => match P.underlying t with | some (.int k) => some k | _ => none))) = true)
    (h29 : ((c.pinned == c.pinnedBy)) = true)
    (h30 : ((c.veiled == (fn.params.toList ++ s.plain.varTypes P ++ fn.resultTypes.toList).any (P.veiledRec ·))) = true)
    (h31 : (c.veiledFits P fn.params.toList (fn.params.toList ++ s.plain.varTypes P ++ fn.resultTypes.toList)) = true)
    : joinedFacts P f fn s c = true := by
  unfold joinedFacts
  simp only [Bool.and_eq_true]
  exact ⟨⟨⟨⟨⟨⟨⟨⟨⟨⟨⟨⟨⟨⟨⟨⟨⟨⟨⟨⟨⟨⟨⟨⟨⟨⟨⟨⟨⟨⟨⟨h0, h1⟩, h2⟩, h3⟩, h4⟩, h5⟩, h6⟩, h7⟩, h8⟩, h9⟩, h10⟩, h11⟩, h12⟩, h13⟩, h14⟩, h15⟩, h16⟩, h17⟩, h18⟩, h19⟩, h20⟩, h21⟩, h22⟩, h23⟩, h24⟩, h25⟩, h26⟩, h27⟩, h28⟩, h29⟩, h30⟩, h31⟩

end Go.Tw
