import Derived.Test.YtnoceajodjaplaaGreatTa
import Derived.MapKept
import Derived.WideKeyRuns
/- Reading and writing of the plain machine stand for the model's; no condition. -/
/- Reading memory. -/
namespace Go.Tw
open Go

variable {P : Program} {K : KW}

/-- What a reading step gives: it changes nothing. -/
def GivesAt (P : Program) (K : KW) (w : World) (s : Sem Value) (Q : AV → Prop) : Prop := ∃ v av, s.run P w = .ok v w ∧ rel K av v ∧ Q av

theorem Gives.at {s : Sem Value} {Q : AV → Prop} (h : Gives P K s Q) (w : World) : GivesAt P K w s Q := let ⟨v, av, h1, h2, h3⟩ := h; ⟨v, av, h1 w, h2, h3⟩

theorem add_none (b o j : Nat) : (⟨b, o, none⟩ : Addr).add j = ⟨b, o + j, none⟩ := by
  unfold Addr.add
  split
  · rename_i h; subst h; rfl
  · rfl

/-- These values lie in memory from a cell on. -/
def lies (w : World) (b o : Nat) (mid : List Value) : Prop := ∀ j v, mid[j]? = some v → w.cell? ⟨b, o + j, none⟩ = some v

theorem cell_of {w : World} {b : Nat} {C : Array Value} {T : TypeId} {fr : Nat × Nat} (h : w.heap[b]? = some (.cells C T fr)) (o : Nat) : w.cell? ⟨b, o, none⟩ = C[o]? := by
  simp [World.cell?, h]

theorem lies_of {w : World} {b : Nat} {C : Array Value} {T : TypeId} {fr : Nat × Nat} {pre mid post : List Value} (h : w.heap[b]? = some (.cells C T fr)) (e : C.toList = pre ++ (mid ++ post)) : lies w b pre.length mid := by
  intro j v hj
  rw [cell_of h, ← Array.getElem?_toList, e]
  rw [List.getElem?_append_right (by omega), Nat.add_sub_cancel_left]
  have hlt : j < mid.length := by
    rcases Nat.lt_or_ge j mid.length with h | h
    · exact h
    · rw [List.getElem?_eq_none h] at hj; cases hj
  rw [List.getElem?_append_left hlt]; exact hj

theorem cellsAt_lies {w : World} {L : Loc} {mid : List Value} (h : cellsAt w L mid) : lies w L.b L.base mid := by
  obtain ⟨C, T, fr, pre, post, hb, e, hl, _⟩ := h
  rw [← hl]; exact lies_of hb e

theorem lies_drop {w : World} {b o : Nat} {us ms : List Value} (h : lies w b o (us ++ ms)) : lies w b (o + us.length) ms := by
  intro j v hj
  have := h (us.length + j) v (by rw [List.getElem?_append_right (by omega), Nat.add_sub_cancel_left]; exact hj)
  rw [Nat.add_assoc]; exact this

theorem lies_take {w : World} {b o : Nat} {us ms : List Value} (h : lies w b o (us ++ ms)) : lies w b o us := by
  intro j v hj
  refine h j v ?_
  have hlt : j < us.length := by
    rcases Nat.lt_or_ge j us.length with h | h
    · exact h
    · rw [List.getElem?_eq_none h] at hj; cases hj
  rw [List.getElem?_append_left hlt]; exact hj

theorem run_loads {w : World} {b o : Nat} {mid : List Value} (h : lies w b o mid) : (loadCells ⟨b, o, none⟩ mid.length).run P w = .ok mid.toArray w :=
  run_loadCells_list w ⟨b, o, none⟩ mid fun j v hj => by rw [add_none]; exact h j v hj

theorem loads_sound {t : TypeId} {cs : List AV} {off : Nat} {w : World} {b o : Nat} {mid : List Value} {Q : AV → Prop} (hl : lies w b o mid) (hr : relCs K cs mid) (h : partK Alg.prop P t cs off Q) :
    GivesAt P K w (loadVar t ⟨b, o + off, none⟩) Q := by
  unfold partK at h
  split at h
  · rename_i n ha hs
    split at h
    · rename_i r hp
      obtain ⟨h1, h2⟩ := partC_rel hp hr
      have hlen : ((mid.drop off).take n).length = n := by simp; omega
      have hl' : lies w b (o + off) ((mid.drop off).take n) := by
        have e : mid = mid.take off ++ ((mid.drop off).take n ++ (mid.drop off).drop n) := by rw [List.take_append_drop, List.take_append_drop]
        rw [e] at hl
        have := lies_take (lies_drop hl)
        rwa [List.length_take, Nat.min_eq_left (by omega)] at this
      have hx := run_loads (P := P) hl'
      rw [hlen] at hx
      exact ⟨.agg ((mid.drop off).take n).toArray, .agg r, by simp [loadVar, run_isAggT ha, run_sizeT hs, hx], ⟨_, rfl, by simpa using h1⟩, h⟩
    · exact h.elim
  · rename_i n ha hs
    split at h
    · rename_i v hg
      obtain ⟨x, hx, hrel⟩ := getC_rel hg hr
      refine ⟨x, v, ?_, hrel, h⟩
      have := hl off x hx
      simp [loadVar, run_isAggT ha, this]
    · exact h.elim
  · exact h.elim

theorem relRows_get {α : Type} {f : α → List Value → Prop} {n : Nat} (hn : ∀ x us, f x us → us.length = n) : ∀ {xs : List α} {vs : List Value} {i : Nat} (hi : i < xs.length), relRows f xs vs →
    ∃ pre us post, vs = pre ++ (us ++ post) ∧ pre.length = i * n ∧ us.length = n ∧ f xs[i] us
  | x :: xs, vs, 0, hi, ⟨us, ws, e, h1, h2⟩ => ⟨[], us, ws, e, by simp, hn _ _ h1, h1⟩
  | x :: xs, vs, i + 1, hi, ⟨us, ws, e, h1, h2⟩ => by
    obtain ⟨pre, us', post, e2, hl, hl2, hf⟩ := relRows_get hn (by simpa using hi) h2
    exact ⟨us ++ pre, us', post, by simp [e, e2], by rw [List.length_append, hn _ _ h1, hl, Nat.add_mul]; omega, hl2, by simpa using hf⟩

theorem getD_get {α : Type} {xs : List α} {i : Nat} {d : α} (hi : i < xs.length) : xs.getD i d = xs[i] := by
  rw [List.getD_eq_getElem?_getD, List.getElem?_eq_getElem hi]; rfl

/-- The bytes of a row, as one cell. -/
theorem load_bytes {t : TypeId} {n : Nat} {xs : List B8} {w : World} {b o : Nat} {mid : List Value} {row : Nat} {e : TypeId} (hu : P.underlying t = some (.array n e)) (hs : sizeT P t = some n)
    (hl : lies w b o mid) (hr : mid = xs.map byteV) (hle : row + n ≤ xs.length) : ∃ v, (loadVar t ⟨b, o + row, none⟩).run P w = .ok v w ∧ rel K (.agg [.barr n ((xs.drop row).take n)]) v := by
  have hl' : lies w b (o + row) (((xs.drop row).take n).map byteV) := by
    have e : mid = (xs.take row).map byteV ++ (((xs.drop row).take n).map byteV ++ ((xs.drop row).drop n).map byteV) := by
      rw [hr, ← List.map_append, ← List.map_append, List.take_append_drop, List.take_append_drop]
    rw [e] at hl
    have := lies_take (lies_drop hl)
    rwa [List.length_map, List.length_take, Nat.min_eq_left (by omega)] at this
  have hlen : (((xs.drop row).take n).map byteV).length = n := by simp; omega
  have hx := run_loads (P := P) hl'
  rw [hlen] at hx
  refine ⟨.agg (((xs.drop row).take n).map byteV).toArray, ?_, _, rfl, ?_⟩
  · simp [loadVar, run_isAggT (show isAggT P t = some true by simp [isAggT, hu]), run_sizeT hs, hx]
  · exact ⟨((xs.drop row).take n).map byteV, [], by simp, ⟨by simp; omega, rfl⟩, rfl⟩

theorem load_sound {h : Heap} {w : World} (hR : R K h w) {t : TypeId} {a : AV} {va : Value} {Q : AV → Prop} (ha : rel K a va) (hk : loadK Alg.prop P h t a Q) : GivesAt P K w (Instr.loadAt t va) Q := by
  unfold loadK at hk
  split at hk
  · rename_i id off
    obtain ⟨L, hL, hv, rfl⟩ := ha
    split at hk
    · rename_i cs hg
      obtain ⟨L', hL', hb⟩ := hR.live _ _ hg
      cases hL.symm.trans hL'
      obtain ⟨_, mid, hc, hr⟩ := hb
      exact loads_sound (cellsAt_lies hc) hr hk
    · exact hk.elim
  · rename_i id row sub
    obtain ⟨L, hL, hv, rfl, hrow⟩ := ha
    split at hk
    · rename_i τ xs hg
      obtain ⟨L', hL', hb⟩ := hR.live _ _ hg
      cases hL.symm.trans hL'
      obtain ⟨hsz, hlen, hb⟩ := hb
      rcases hb with ⟨hv', _⟩ | ⟨_, mid, hc, hr⟩
      · rw [hv] at hv'; cases hv'
      have one : partK Alg.prop P t (embed τ (xs.getD row τ.zero)) sub Q → GivesAt P K w (Instr.loadAt t (.pointer (some ⟨L.b, L.base + (row * L.sz + sub), none⟩))) Q := fun hk => by
        rw [getD_get (hlen ▸ hrow)] at hk
        obtain ⟨pre, us, post, e, hl, hl2, hf⟩ := relRows_get (fun x us h => relT_len h) (hlen ▸ hrow) hr
        subst e
        have := loads_sound (lies_take (lies_drop (cellsAt_lies hc))) (relCs_embed.2 hf) hk
        rw [hl, ← hsz, Nat.add_assoc] at this
        exact this
      split at hk
      · rename_i n e hu
        split at hk
        · rename_i xs'
          split at hk
          · rename_i m hm
            split at hk
            · rename_i hmn
              subst hmn
              obtain ⟨hle, hk⟩ := br_yes hk
              obtain ⟨v, h1, h2⟩ := load_bytes (K := K) hu hm (cellsAt_lies hc) (relRows_bytes hr) hle
              refine ⟨v, _, ?_, h2, hk⟩
              simp only [Ty.cells] at hsz
              simpa [Instr.loadAt, Instr.sureAddr, hsz] using h1
            · exact hk.elim
          · exact hk.elim
        · exact one hk
      · exact one hk
    · exact hk.elim
  · rename_i τ x sub
    obtain ⟨b, C, pre, mid, post, hS, e, hT, rfl⟩ := ha
    obtain ⟨T, fr, hb⟩ := hR.stab _ _ hS
    exact loads_sound (lies_of hb e) (relCs_embed.2 hT) hk
  · exact hk.elim

end Go.Tw

/- Slices' elements, and keys of maps. -/
namespace Go.Tw
open Go

variable {P : Program} {K : KW}

theorem castD_prop {τ τ' : Ty} {x : τ.den} {Q : τ'.den → Prop} (h : castD Alg.prop τ τ' x Q) : ∃ e : τ = τ', Q (e ▸ x) := by
  unfold castD at h
  split at h
  · rename_i e; exact ⟨e, h⟩
  · exact h.elim

/-- A slice whose elements' cells are known. -/
def sliceIs (w : World) (v : Value) (n : Nat) (mid : List Value) : Prop :=
  ∃ a c, v = .slice a n c ∧ n ≤ c ∧ ((a = none ∧ mid = [] ∧ n = 0) ∨ ∃ b o, a = some ⟨b, o, none⟩ ∧ lies w b o mid)

theorem lies_nil (w : World) (b o : Nat) : lies w b o [] := fun j v h => by simp at h

theorem relRows_nil_of {α : Type} {f : α → List Value → Prop} {vs : List Value} (h : relRows f [] vs) : vs = [] := h

theorem sl_inj {a b : Ty} (e : Ty.sl a = Ty.sl b) : a = b := by cases e; rfl

theorem relRows_of_bytes {S : Nat → Option (Array Value)} : ∀ (ys : List B8), relRows (relT S (.u .u8)) ys (ys.map byteV)
  | [] => rfl
  | y :: ys => ⟨[byteV y], ys.map byteV, rfl, rfl, relRows_of_bytes ys⟩

theorem rowsOf_sound {h : Heap} {w : World} (hR : R K h w) {τ : Ty} {x : AV} {v : Value} {Q : List τ.den → Prop} (hx : rel K x v) (hk : rowsOf Alg.prop τ h x Q) :
    ∃ xs mid, Q xs ∧ sliceIs w v xs.length mid ∧ relRows (relT K.S τ) xs mid := by
  unfold rowsOf at hk
  split at hk
  · cases (hx : v = _)
    exact ⟨[], [], hk, ⟨none, 0, rfl, Nat.le_refl _, .inl ⟨rfl, rfl, rfl⟩⟩, rfl⟩
  · rename_i σ xs ex nn
    obtain ⟨e, hk⟩ := castD_prop hk
    cases sl_inj e
    obtain ⟨c, ⟨a, rfl, hle, hr⟩, _, _⟩ := hx
    rcases hr with ⟨rfl, rfl⟩ | ⟨b, o, rfl, hr⟩
    · have : xs = [] := List.length_eq_zero_iff.1 (by omega)
      subst this
      exact ⟨[], [], hk, ⟨none, 0, rfl, Nat.le_refl _, .inl ⟨rfl, rfl, rfl⟩⟩, rfl⟩
    · rcases hr with rfl | ⟨C, pre, mid, post, hS, ec, hl, hr⟩
      · have : xs = [] := List.length_eq_zero_iff.1 (by omega)
        subst this
        exact ⟨[], [], hk, ⟨_, 0, rfl, Nat.le_refl _, .inr ⟨b, o, rfl, lies_nil _ _ _⟩⟩, rfl⟩
      · obtain ⟨T, fr, hb⟩ := hR.stab _ _ hS
        exact ⟨xs, mid, hk, ⟨_, c, rfl, hle, .inr ⟨b, o, rfl, hl ▸ lies_of hb ec⟩⟩, hr⟩
  · rename_i id sz off len wh cap ex nn
    split at hk
    · rename_i hsz
      split at hk
      · rename_i σ xs hg
        obtain ⟨e, hk⟩ := castD_prop hk
        cases sl_inj e
        obtain ⟨L, a, c, hL, rfl, hLz, hlen, hc, hcap, hex, hwh, hr⟩ := hx
        obtain ⟨L', hL', hz, hn, hb⟩ := hR.live _ _ hg
        cases hL.symm.trans hL'
        have key : Q ((xs.drop off).take len) := by
          cases wh with
          | true =>
            obtain ⟨rfl, rfl⟩ := hwh rfl
            rw [List.drop_zero, ← hn, List.take_length]; exact hk
          | false => exact hk
        have hl : ((xs.drop off).take len).length = len := by simp; omega
        refine ⟨(xs.drop off).take len, ?_⟩
        rcases Nat.eq_zero_or_pos len with h0 | h0
        · subst h0
          refine ⟨[], key, ?_, by simp; rfl⟩
          rcases hr with ⟨rfl, _, rfl⟩ | ⟨ad, rfl, hsp, hr⟩
          · exact ⟨none, 0, by rw [hl], by omega, .inl ⟨rfl, rfl, hl⟩⟩
          · obtain ⟨b, o, s⟩ := ad
            cases (hsp : s = none)
            exact ⟨_, c, by rw [hl], by omega, .inr ⟨b, o, rfl, lies_nil _ _ _⟩⟩
        · rcases hr with ⟨_, _, rfl⟩ | ⟨ad, rfl, hsp, hr⟩
          · omega
          · rcases hr with rfl | ⟨hv, rfl, _⟩
            · omega
            · rcases hb with ⟨hv', _⟩ | ⟨_, mid, hcell, hrows⟩
              · rw [hv] at hv'; cases hv'
              · obtain ⟨us, ws, e1, hl1, hr1, hr2⟩ := relRows_cut hrows off
                obtain ⟨us2, ws2, e2, hl2, hr3, _⟩ := relRows_cut hr2 len
                refine ⟨us2, key, ⟨_, c, by rw [hl], by omega, .inr ⟨L.b, _, rfl, ?_⟩⟩, hr3⟩
                have := lies_take (lies_drop (e2 ▸ e1 ▸ cellsAt_lies hcell))
                rw [hl1, List.length_take, Nat.min_eq_left (by omega), ← hz, hLz] at this
                exact this
      · exact hk.elim
    · exact hk.elim
  · rename_i id cell len cap ex
    obtain ⟨L, c, hL, hv, rfl, hle, _⟩ := hx
    split at hk
    · rename_i cs hg
      split at hk
      · rename_i m xs rest hd
        split at hk
        · rename_i hlm
          obtain ⟨e, hk⟩ := castD_prop hk
          cases sl_inj e
          obtain ⟨L', hL', _, mid, hcell, hr⟩ := hR.live _ _ hg
          cases hL.symm.trans hL'
          obtain ⟨us, ws, e1, hl1, us2, ws2, e2, ⟨hxl, hx2⟩, _⟩ := dropC_rel hd hr
          have hl : (List.take len (xs : List B8)).length = len := by simp; omega
          have hs : sliceIs w (.slice (some ⟨L.b, L.base + cell, none⟩) len c) (List.take len (xs : List B8)).length ((List.take len (xs : List B8)).map byteV) := by
            refine ⟨_, c, by rw [hl], by omega, .inr ⟨L.b, L.base + cell, rfl, ?_⟩⟩
            have e3 : us2 = (xs.take len).map byteV ++ (xs.drop len).map byteV := by rw [hx2, ← List.map_append, List.take_append_drop]
            have h1 := cellsAt_lies hcell
            rw [e1, e2, e3, List.append_assoc] at h1
            have := lies_take (lies_drop h1)
            rwa [hl1] at this
          exact ⟨List.take len (xs : List B8), _, hk, hs, relRows_of_bytes _⟩
        · exact hk.elim
      · exact hk.elim
    · exact hk.elim
  · exact hk.elim

/-- A slice's first elements are read. -/
theorem firsts_sound {w : World} {v : Value} {n : Nat} {mid : List Value} {sz k : Nat} (h : sliceIs w v n mid) (hl : mid.length = n * sz) (hk : k ≤ n) : (Builtin.firstCells sz k v).run P w = .ok (mid.take (k * sz)).toArray w := by
  obtain ⟨a, c, rfl, hc, hr⟩ := h
  rcases hr with ⟨rfl, rfl, rfl⟩ | ⟨b, o, rfl, hr⟩
  · simp [Builtin.firstCells]
  · have e : mid = mid.take (k * sz) ++ mid.drop (k * sz) := by rw [List.take_append_drop]
    rw [e] at hr
    have := run_loads (P := P) (lies_take hr)
    have hle : k * sz ≤ mid.length := by rw [hl]; exact Nat.mul_le_mul_right _ hk
    rw [List.length_take, Nat.min_eq_left hle] at this
    exact this

theorem toStr_loop {w : World} {f : Value → ByteArray → Sem (ForInStep ByteArray)} (hf : ∀ (x : B8) s, f (byteV x) s = pure (.yield (s.push (UInt8.ofNat x.toNat)))) : ∀ (bs : List B8) (s : ByteArray) (b : ByteArray), b.data.toList = s.data.toList ++ bs.map UInt8.ofBitVec →
    (forIn (bs.map byteV) s f).run P w = .ok b w
  | [], s, b, h => by
    have : b = s := by apply ByteArray.ext; apply Array.ext'; simpa using h
    simp [this]
  | x :: bs, s, b, h => by
    have ih := toStr_loop (w := w) hf bs (s.push (UInt8.ofNat x.toNat)) b (by
      rw [h]
      simp)
    simp only [List.map_cons, List.forIn_cons, hf, Sem.run_bind, Sem.run_pure, Result.andThen_ok]
    exact ih

theorem toStr_sound {w : World} {v : Value} {xs : List B8} {mid : List Value} (h : sliceIs w v xs.length mid) (hr : relRows (relT K.S (.u .u8)) xs mid) : (Conv.bytesToString v).run P w = .ok (strV xs) w := by
  have hm := relRows_bytes hr
  obtain ⟨a, c, rfl, hc, hd⟩ := h
  rcases hd with ⟨rfl, rfl, hl⟩ | ⟨b, o, rfl, hd⟩
  · have : xs = [] := List.length_eq_zero_iff.1 hl
    subst this
    rfl
  · have hl := run_loads (P := P) hd
    rw [hm, List.length_map] at hl
    simp only [Conv.bytesToString, Sem.run_bind, hl, Result.andThen_ok]
    rw [← Array.forIn_toList]
    rw [toStr_loop (P := P) (w := w) (fun x s => rfl) xs ByteArray.empty ⟨(xs.map UInt8.ofBitVec).toArray⟩ (by simp)]
    rfl

end Go.Tw

/- Keys of maps. -/
namespace Go.Tw
open Go

variable {P : Program} {K : KW}

theorem beqL_iff {α : Type} {f : α → α → Bool} (h : ∀ x y, f x y = true ↔ x = y) : ∀ xs ys : List α, beqL f xs ys = true ↔ xs = ys
  | [], [] => by simp [beqL]
  | [], _ :: _ => by simp [beqL]
  | _ :: _, [] => by simp [beqL]
  | x :: xs, y :: ys => by
    simp only [beqL]
    cases he : f x y
    · have : x ≠ y := fun e => by rw [(h x y).2 e] at he; cases he
      simp [this]
    · have := (h x y).1 he
      simp [this, beqL_iff h xs ys]

theorem pair_iff {α β : Type} {f : α → α → Bool} {g : β → β → Bool} (hf : ∀ x y, f x y = true ↔ x = y) (hg : ∀ x y, g x y = true ↔ x = y) (x y : α × β) :
    (match f x.1 y.1 with | true => g x.2 y.2 | false => false) = true ↔ x = y := by
  obtain ⟨x1, x2⟩ := x
  obtain ⟨y1, y2⟩ := y
  cases he : f x1 y1
  · have : x1 ≠ y1 := fun e => by rw [(hf x1 y1).2 e] at he; cases he
    simp [he, this]
  · have := (hf x1 y1).1 he
    subst this
    simp [he, hg]

theorem eqI_iff (x y : Int) : eqI x y = true ↔ x = y := by simp [eqI]
theorem eqB_iff (x y : Bool) : eqB x y = true ↔ x = y := by cases x <;> cases y <;> simp [eqB]

theorem beq_iff : ∀ (τ : Ty) (x y : τ.den), τ.beq x y = true ↔ x = y
  | .i _, x, y => eqI_iff x y
  | .u _, x, y => eqU_iff x y
  | .bool, x, y => eqB_iff x y
  | .str, x, y => eqS_iff x y
  | .pair a b, x, y => pair_iff (beq_iff a) (beq_iff b) x y
  | .sl a, x, y => beqL_iff (beq_iff a) x y
  | .barr _, x, y => eqS_iff x y

def Ty.pos : Ty → Prop
  | .pair a b => a.pos ∧ b.pos
  | .barr n => 0 < n
  | .sl _ => False
  | _ => True

def allPos (cs : List AV) : Prop := ∀ c ∈ cs, 0 < c.width

theorem embed_pos : ∀ {τ : Ty} (_ : τ.pos) (x : τ.den), allPos (embed τ x)
  | .i _, _, x => by intro c hc; simp [embed] at hc; subst hc; simp [AV.width]
  | .u _, _, x => by intro c hc; simp [embed] at hc; subst hc; simp [AV.width]
  | .bool, _, x => by intro c hc; simp [embed] at hc; subst hc; simp [AV.width]
  | .str, _, x => by intro c hc; simp [embed] at hc; subst hc; simp [AV.width]
  | .pair a b, ⟨h1, h2⟩, x => by
    intro c hc
    rcases List.mem_append.1 (show c ∈ embed a x.1 ++ embed b x.2 from hc) with hc | hc
    · exact embed_pos h1 _ c hc
    · exact embed_pos h2 _ c hc
  | .sl _, h, _ => h.elim
  | .barr n, h, x => by intro c hc; simp [embed] at hc; subst hc; exact h

theorem widthC_append (as bs : List AV) : widthC (as ++ bs) = widthC as + widthC bs := by
  induction as with
  | nil => simp [widthC]
  | cons a as ih => simp [widthC, ih, Nat.add_assoc]

theorem embed_width : ∀ (τ : Ty) (x : τ.den), widthC (embed τ x) = τ.cells
  | .i _, _ => rfl
  | .u _, _ => rfl
  | .bool, _ => rfl
  | .str, _ => rfl
  | .pair a b, x => by
    show widthC (embed a x.1 ++ embed b x.2) = a.cells + b.cells
    rw [widthC_append, embed_width a, embed_width b]
  | .sl _, _ => rfl
  | .barr _, _ => rfl

theorem dropC_past : ∀ {pre : List AV} (_ : allPos pre) (r : List AV), dropC (pre ++ r) (widthC pre) = some r
  | [], _, r => by cases r <;> rfl
  | c :: pre, h, r => by
    have h1 : 0 < c.width := h c (by simp)
    obtain ⟨n, hn⟩ : ∃ n, widthC (c :: pre) = n + 1 := ⟨widthC (c :: pre) - 1, by simp [widthC]; omega⟩
    have ih := dropC_past (pre := pre) (fun x hx => h x (by simp [hx])) r
    have e : n + 1 - c.width = widthC pre := by rw [← hn]; simp [widthC]
    rw [hn, List.cons_append, dropC, if_pos (by rw [← hn]; simp [widthC]), e, ih]

theorem firstC_here : ∀ {us : List AV} (_ : allPos us) (r : List AV), firstC (us ++ r) (widthC us) = some us
  | [], _, r => by cases r <;> rfl
  | c :: us, h, r => by
    have h1 : 0 < c.width := h c (by simp)
    obtain ⟨n, hn⟩ : ∃ n, widthC (c :: us) = n + 1 := ⟨widthC (c :: us) - 1, by simp [widthC]; omega⟩
    have ih := firstC_here (us := us) (fun x hx => h x (by simp [hx])) r
    have e : n + 1 - c.width = widthC us := by rw [← hn]; simp [widthC]
    rw [hn, List.cons_append, firstC, if_pos (by rw [← hn]; simp [widthC]), e, ih]

theorem partC_there {pre us : List AV} (hp : allPos pre) (hu : allPos us) (r : List AV) : partC (pre ++ (us ++ r)) (widthC pre) (widthC us) = some us := by
  unfold partC
  rw [dropC_past hp]
  exact firstC_here hu r

/-- What a field of a key is. -/
theorem keyFs_cons {f : TypeId → Ty → Bool} {sz : TypeId → Option Nat} {off : Nat} {fd : Field} {fs : List Field} {κ : Ty} (h : keyFs f sz off (fd :: fs) κ = true) :
    fd.name ≠ "_" ∧ fd.offset = off ∧ ((fs = [] ∧ sz fd.type = some κ.cells ∧ f fd.type κ = true) ∨ ∃ a b, κ = .pair a b ∧ sz fd.type = some a.cells ∧ f fd.type a = true ∧ keyFs f sz (off + a.cells) fs b = true) := by
  unfold keyFs at h
  split at h
  · simp only [Bool.and_eq_true, decide_eq_true_eq] at h
    exact ⟨h.1.1.1, h.1.1.2, .inl ⟨rfl, h.1.2, h.2⟩⟩
  · split at h
    · rename_i a b
      simp only [Bool.and_eq_true, decide_eq_true_eq] at h
      exact ⟨h.1.1.1.1, h.1.1.1.2, .inr ⟨a, b, rfl, h.1.1.2, h.1.2, h.2⟩⟩
    · cases h

theorem keyFs_eq {f : TypeId → Ty → Bool} {g : TypeId → List AV → List AV → Option Bool} {sz : TypeId → Option Nat}
    (hf : ∀ t κ, f t κ = true → κ.pos ∧ ∀ a b, g t (embed κ a) (embed κ b) = some (κ.beq a b)) : ∀ (fs : List Field) (off : Nat) (κ : Ty), keyFs f sz off fs κ = true →
    κ.pos ∧ ∀ (a b : κ.den) (pre pre' : List AV), allPos pre → allPos pre' → widthC pre = off → widthC pre' = off → eqFs g sz (pre ++ embed κ a) (pre' ++ embed κ b) fs = some (κ.beq a b)
  | [], _, _, h => by simp [keyFs] at h
  | fd :: fs, off, κ, h => by
    obtain ⟨hn, ho, h | ⟨α, β, rfl, hs, h1, h2⟩⟩ := keyFs_cons h
    · obtain ⟨rfl, hs, h1⟩ := h
      obtain ⟨hp, he⟩ := hf _ _ h1
      refine ⟨hp, fun a b pre pre' p1 p2 e1 e2 => ?_⟩
      have q1 := partC_there p1 (embed_pos hp a) []
      have q2 := partC_there p2 (embed_pos hp b) []
      rw [List.append_nil, embed_width, e1] at q1
      rw [List.append_nil, embed_width, e2] at q2
      simp only [eqFs, if_neg hn, hs, ho, q1, q2, he]
      cases κ.beq a b <;> rfl
    · obtain ⟨hp, he⟩ := hf _ _ h1
      obtain ⟨hp2, ih⟩ := keyFs_eq hf fs _ β h2
      refine ⟨⟨hp, hp2⟩, fun a b pre pre' p1 p2 e1 e2 => ?_⟩
      have q1 := partC_there p1 (embed_pos hp a.1) (embed β a.2)
      have q2 := partC_there p2 (embed_pos hp b.1) (embed β b.2)
      rw [embed_width, e1] at q1
      rw [embed_width, e2] at q2
      have r := ih a.2 b.2 (pre ++ embed α a.1) (pre' ++ embed α b.1) (fun c hc => (List.mem_append.1 hc).elim (p1 c) (embed_pos hp _ c)) (fun c hc => (List.mem_append.1 hc).elim (p2 c) (embed_pos hp _ c))
        (by rw [widthC_append, embed_width, e1]) (by rw [widthC_append, embed_width, e2])
      rw [List.append_assoc, List.append_assoc] at r
      show eqFs g sz (pre ++ (embed α a.1 ++ embed β a.2)) (pre' ++ (embed α b.1 ++ embed β b.2)) (fd :: fs) = _
      simp only [eqFs, if_neg hn, hs, ho, q1, q2, he, r, Ty.beq]
      cases α.beq a.1 b.1 <;> rfl

theorem keyT_eq : ∀ (d : Nat) (t : TypeId) (κ : Ty), keyT P d t κ = true → κ.pos ∧ ∀ a b, eqT P d t (embed κ a) (embed κ b) = some (κ.beq a b)
  | 0, _, _, h => by simp [keyT] at h
  | d + 1, t, κ, h => by
    unfold keyT at h
    split at h
    · rename_i hu
      split at h
      · exact ⟨trivial, fun a b => by simp [eqT, hu, embed, eqAV, Ty.beq]⟩
      · cases h
    · rename_i k hu
      split at h
      · exact ⟨trivial, fun a b => by simp only [eqT, hu, embed, eqAV, Ty.beq, eqI, if_true]⟩
      · refine ⟨trivial, fun a b => ?_⟩
        simp only [eqT, hu, embed, eqAV, Ty.beq, eqU, if_true]
        congr 1
        rw [decide_eq_decide]
        exact BitVec.toNat_inj
      · cases h
    · rename_i fs hu
      simp only [Bool.and_eq_true, Bool.not_eq_true'] at h
      obtain ⟨h0, h⟩ := h
      obtain ⟨hp, he⟩ := keyFs_eq (g := eqT P d) (keyT_eq d) fs.toList 0 κ h
      refine ⟨hp, fun a b => ?_⟩
      have := he a b [] [] (fun _ h => by simp at h) (fun _ h => by simp at h) rfl rfl
      simp only [List.nil_append] at this
      simp only [eqT, hu, h0, this]
      rfl
    · rename_i n e hu
      split at h
      · rename_i m
        simp only [Bool.and_eq_true, decide_eq_true_eq] at h
        obtain ⟨⟨rfl, hn, hd, hs⟩, h⟩ := h
        split at h
        · rename_i hue
          refine ⟨hn, fun a b => ?_⟩
          simp only [eqT, hu, hue, embed, hd, hs, Ty.beq]
          simp
        · cases h
      · cases h
    · cases h

end Go.Tw

/- Keys of maps: they can be keys, and they are found. -/
namespace Go.Tw
open Go

variable {P : Program} {K : KW}

theorem loop_ok {α : Type} {w : World} {f : α → PUnit → Sem (ForInStep PUnit)} : ∀ (L : List α), (∀ a ∈ L, (f a ⟨⟩).run P w = .ok (.yield ⟨⟩) w) → (forIn L PUnit.unit f).run P w = .ok ⟨⟩ w
  | [], _ => by simp
  | a :: L, h => by
    simp only [List.forIn_cons, Sem.run_bind, h a (by simp), Result.andThen_ok]
    exact loop_ok L fun x hx => h x (by simp [hx])

theorem loop_ok' {α : Type} {w : World} {f : α → PUnit → Sem (ForInStep PUnit)} (L : List α) (h : ∀ a ∈ L, (f a ⟨⟩).run P w = .ok (.yield ⟨⟩) w) : (((forIn L PUnit.unit f).run P w).andThen fun _ w' => (pure () : Sem Unit).run P w') = .ok () w := by
  rw [loop_ok L h]; rfl

theorem check_bool {t : TypeId} (hu : P.underlying t = some .bool) (em : Bool) (n : Nat) (v : Value) (w : World) : (Instr.checkKey em (n + 1) t v).run P w = .ok () w := by
  simp [Instr.checkKey, run_underlying hu]
theorem check_int {t : TypeId} {k : IntKind} (hu : P.underlying t = some (.int k)) (em : Bool) (n : Nat) (v : Value) (w : World) : (Instr.checkKey em (n + 1) t v).run P w = .ok () w := by
  simp [Instr.checkKey, run_underlying hu]
theorem check_string {t : TypeId} (hu : P.underlying t = some .string) (em : Bool) (n : Nat) (v : Value) (w : World) : (Instr.checkKey em (n + 1) t v).run P w = .ok () w := by
  simp [Instr.checkKey, run_underlying hu]

/-- What can be a key. -/
def ChecksAt (P : Program) (K : KW) (n : Nat) (t : TypeId) (xs : List AV) : Prop :=
  ∀ us, relCs K xs us → ∀ em w, (isAggT P t = some true → (Instr.checkKey em n t (.agg us.toArray)).run P w = .ok () w) ∧ (isAggT P t = some false → ∀ v, (Instr.checkKey em n t v).run P w = .ok () w)

theorem keyT_agg {d : Nat} {t : TypeId} {κ : Ty} (h : keyT P d t κ = true) : ∃ ag, isAggT P t = some ag ∧ (ag = false → κ.cells = 1) := by
  cases d with
  | zero => simp [keyT] at h
  | succ d =>
    unfold keyT at h
    split at h
    · rename_i hu
      split at h
      · exact ⟨false, by simp [isAggT, hu], fun _ => rfl⟩
      · cases h
    · rename_i hu
      split at h
      · exact ⟨false, by simp [isAggT, hu], fun _ => rfl⟩
      · exact ⟨false, by simp [isAggT, hu], fun _ => rfl⟩
      · cases h
    · rename_i hu
      exact ⟨true, by simp [isAggT, hu], fun h => by cases h⟩
    · rename_i hu
      exact ⟨true, by simp [isAggT, hu], fun h => by cases h⟩
    · cases h

theorem checkPart {n d off : Nat} {t : TypeId} {κ : Ty} {x : κ.den} {pre post : List AV} (hk : keyT P d t κ = true) (hs : sizeT P t = some κ.cells) (hp : allPos pre) (ho : widthC pre = off)
    (hc : ChecksAt P K n t (embed κ x)) {us : List Value} (hx : relCs K (pre ++ (embed κ x ++ post)) us) (em : Bool) (w : World) :
    ∃ a, (part t us.toArray off).run P w = .ok a w ∧ (Instr.checkKey em n t a).run P w = .ok () w := by
  have hpart := partC_there hp (embed_pos (keyT_eq _ _ _ hk).1 x) post
  rw [embed_width, ho] at hpart
  obtain ⟨hr, hl⟩ := partC_rel hpart hx
  obtain ⟨g1, g2⟩ := hc _ hr em w
  obtain ⟨ag, ha, h1⟩ := keyT_agg hk
  cases ag
  · have := h1 rfl
    have hlt : off < us.length := by omega
    refine ⟨us[off], ?_, g2 ha _⟩
    have hg : us.toArray[off]? = some us[off] := by simp [hlt]
    simp [part, run_isAggT ha, hg]
  · refine ⟨.agg (us.toArray.extract off (off + κ.cells)), by simp [part, run_isAggT ha, run_sizeT hs], ?_⟩
    rw [extract_list]
    exact g1 ha

theorem checkFs {d n : Nat} (ih : ∀ t κ, keyT P d t κ = true → ∀ (x : κ.den), ChecksAt P K n t (embed κ x)) {us : List Value} (em : Bool) (w : World) :
    ∀ (fs : List Field) (off : Nat) (κ : Ty) (x : κ.den) (pre : List AV), keyFs (keyT P d) (sizeT P) off fs κ = true → allPos pre → widthC pre = off → relCs K (pre ++ embed κ x) us →
    ∀ fd ∈ fs, fd.name ≠ "_" ∧ ∃ a, (part fd.type us.toArray fd.offset).run P w = .ok a w ∧ (Instr.checkKey em n fd.type a).run P w = .ok () w
  | [], _, _, _, _, h, _, _, _ => by simp [keyFs] at h
  | fd :: fs, off, κ, x, pre, h, hp, ho, hx => by
    obtain ⟨hn, hoff, h | ⟨α, β, rfl, hs, h1, h2⟩⟩ := keyFs_cons h
    · obtain ⟨rfl, hs, h1⟩ := h
      intro g hg
      simp only [List.mem_singleton] at hg
      subst hg
      rw [hoff]
      exact ⟨hn, checkPart (post := []) h1 hs hp ho (ih _ _ h1 x) (by rw [List.append_nil]; exact hx) em w⟩
    · have hx' : relCs K (pre ++ (embed α x.1 ++ embed β x.2)) us := hx
      intro g hg
      rcases List.mem_cons.1 hg with rfl | hg
      · rw [hoff]
        exact ⟨hn, checkPart h1 hs hp ho (ih _ _ h1 x.1) hx' em w⟩
      · refine checkFs ih em w fs (off + α.cells) β x.2 (pre ++ embed α x.1) h2 (fun c hc => (List.mem_append.1 hc).elim (hp c) (embed_pos (keyT_eq _ _ _ h1).1 _ c)) (by rw [widthC_append, embed_width, ho]) ?_ g hg
        rw [List.append_assoc]; exact hx'

theorem keyT_checks : ∀ (d : Nat) (n : Nat) (t : TypeId) (κ : Ty), keyT P d t κ = true → ∀ (x : κ.den), ChecksAt P K (n + d) t (embed κ x)
  | 0, _, _, _, h => by simp [keyT] at h
  | d + 1, n, t, κ, h => by
    intro x us hx em w
    unfold keyT at h
    split at h
    · rename_i hu
      exact ⟨fun ha => by simp [isAggT, hu] at ha, fun _ v => by simp [Instr.checkKey, run_underlying hu]⟩
    · rename_i k hu
      exact ⟨fun ha => by simp [isAggT, hu] at ha, fun _ v => by simp [Instr.checkKey, run_underlying hu]⟩
    · rename_i fs hu
      refine ⟨fun _ => ?_, fun ha => by simp [isAggT, hu] at ha⟩
      simp only [Bool.and_eq_true] at h
      have hall := checkFs (n := n + d) (keyT_checks d n) em w fs.toList 0 κ x [] h.2 (fun _ h => by simp at h) rfl hx
      rw [show n + (d + 1) = (n + d) + 1 from rfl, Instr.checkKey]
      simp only [Sem.run_bind, run_underlying hu, Result.andThen_ok]
      rw [← Array.forIn_toList]
      refine loop_ok' _ fun fd hfd => ?_
      obtain ⟨hn, a, p1, p2⟩ := hall fd hfd
      simp only [hn, ne_eq, not_false_eq_true, if_true, Sem.run_bind, p1, p2, Result.andThen_ok, Sem.run_pure]
    · rename_i m e hu
      refine ⟨fun _ => ?_, fun ha => by simp [isAggT, hu] at ha⟩
      split at h
      · rename_i κ m'
        simp only [Bool.and_eq_true, decide_eq_true_eq] at h
        obtain ⟨⟨rfl, hn, hd, hs⟩, h⟩ := h
        split at h
        · rename_i hue
          obtain ⟨us', ws, e1, ⟨hl, h2⟩, hz⟩ := hx
          cases (hz : ws = [])
          have hl' : us.length = m' := by rw [e1, h2, List.append_nil]; exact (List.length_map byteV).trans hl
          rw [show n + (d + 1) = (n + d) + 1 from rfl, Instr.checkKey]
          simp only [Sem.run_bind, run_underlying hu, Result.andThen_ok]
          simp only [Std.Legacy.Range.forIn_eq_forIn_range', Std.Legacy.Range.size, Nat.sub_zero, Nat.add_one_sub_one, Nat.div_one]
          refine loop_ok' _ fun i hi => ?_
          have hi' : i < us.length := by
            have := List.mem_range'.1 hi
            omega
          have hg : us.toArray[i * 1]? = some us[i] := by simp [hi']
          obtain ⟨q, hq⟩ : ∃ q, n + d = q + 1 := ⟨n + d - 1, by omega⟩
          simp only [Sem.run_bind, run_sizeT hs, Result.andThen_ok, part, run_isAggT (show isAggT P e = some false by simp [isAggT, hue]), hg, Bool.false_eq_true, if_false, Sem.run_pure, hq]
          simp [Instr.checkKey, run_underlying hue]
        · cases h
      · cases h
    · cases h

theorem check_sound {t : TypeId} {κ : Ty} {ka : Bool} (h : keyOk P t κ ka = true) {k : κ.den} {v : Value} (hv : rel K (valOf ka κ k) v) (em : Bool) (w : World) : (Instr.checkKey em 10000 t v).run P w = .ok () w := by
  unfold keyOk at h
  have agg : ∀ (_ : isAggT P t = some true) (_ : keyT P 10 t κ = true) (_ : ka = true), (Instr.checkKey em 10000 t v).run P w = .ok () w := by
    rintro ha hk rfl
    obtain ⟨a, rfl, hr⟩ := hv
    exact (keyT_checks (K := K) 10 9990 t κ hk k _ hr em w).1 ha
  split at h
  · rename_i hu
    exact check_string hu em 9999 v w
  · rename_i fs hu
    split at h
    · exact agg (by simp [isAggT, hu]) h rfl
    · cases h
  · rename_i n e hu
    split at h
    · exact agg (by simp [isAggT, hu]) h rfl
    · cases h
  · rename_i h1 h2 h3
    split at h
    · have hk := h
      unfold keyT at h
      split at h
      · rename_i hu; exact check_bool hu em 9999 v w
      · rename_i hu; exact check_int hu em 9999 v w
      · rename_i hu; exact (h2 _ hu).elim
      · rename_i hu; exact (h3 _ _ hu).elim
      · cases h
    · cases h

end Go.Tw

/- Keys of maps are found. -/
namespace Go.Tw
open Go Go.MapKept

variable {P : Program} {K : KW}

/-- Where a key's first entry stands. -/
def ixM {κ : Ty} {α : Type} (k : κ.den) : List (κ.den × α) → Option Nat
  | [] => none
  | (a, _) :: es => match κ.beq k a with | true => some 0 | false => (ixM k es).map (· + 1)

theorem same_str (a b : List B8) : Instr.sameNow .string (strV a) (strV b) = some (eqS a b) := by
  simp only [Instr.sameNow, strV, Option.some.injEq]
  rw [Bool.eq_iff_iff, eqS_iff, bytes_beq]
  exact ⟨fun h => strV_inj (congrArg Value.string h), fun h => by rw [h]⟩
theorem same_i (k : IntKind) (a b : Int) : Instr.sameNow (.int k) (.int k a) (.int k b) = some (eqI a b) := by
  simp only [Instr.sameNow, if_true, Option.some.injEq]
  rw [Bool.eq_iff_iff, eqI_iff, beq_iff_eq]
theorem same_u (k : IntKind) (a b : BitVec k.bits) : Instr.sameNow (.int k) (.int k (a.toNat : Int)) (.int k (b.toNat : Int)) = some (eqU a b) := by
  simp only [Instr.sameNow, if_true, Option.some.injEq]
  rw [Bool.eq_iff_iff, eqU_iff, beq_iff_eq]
  exact ⟨fun h => BitVec.eq_of_toNat_eq (by omega), fun h => by rw [h]⟩
theorem same_b (a b : Bool) : Instr.sameNow .bool (.bool a) (.bool b) = some (eqB a b) := by
  simp only [Instr.sameNow, eqB_eq]

theorem same_sc {t : TypeId} {κ : Ty} (h : keyOk P t κ false = true) : ∃ desc, P.underlying t = some desc ∧ ∀ (a b : κ.den) (va vb : Value), rel K (valOf false κ a) va → rel K (valOf false κ b) vb → Instr.sameNow desc va vb = some (κ.beq a b) := by
  unfold keyOk at h
  split at h
  · rename_i hu
    split at h
    · refine ⟨_, hu, ?_⟩
      rintro a b va vb (rfl : va = _) (rfl : vb = _)
      exact same_str a b
    · cases h
  · split at h
    · rename_i h0; cases h0
    · cases h
  · split at h
    · rename_i h0; cases h0
    · cases h
  · rename_i h1 h2 h3
    split at h
    · unfold keyT at h
      split at h
      · rename_i hu
        split at h
        · refine ⟨_, hu, ?_⟩
          rintro a b va vb (rfl : va = _) (rfl : vb = _)
          exact same_b a b
        · cases h
      · rename_i k hu
        split at h
        · simp only [decide_eq_true_eq] at h
          subst h
          refine ⟨_, hu, ?_⟩
          rintro a b va vb (rfl : va = _) (rfl : vb = _)
          exact same_i _ a b
        · simp only [decide_eq_true_eq] at h
          subst h
          refine ⟨_, hu, ?_⟩
          rintro a b va vb (rfl : va = _) (rfl : vb = _)
          exact same_u _ a b
        · cases h
      · rename_i hu; exact (h2 _ hu).elim
      · rename_i hu; exact (h3 _ _ hu).elim
      · cases h
    · cases h

theorem same_agg {t : TypeId} {κ : Ty} (h : keyOk P t κ true = true) : (match P.underlying t with | some (.array _ _) | some (.struct _) => true | _ => false) = true ∧
    ∀ (a b : κ.den) (va vb : Value) (w : World), rel K (valOf true κ a) va → rel K (valOf true κ b) vb → (Op.equal t va vb).run P w = .ok (κ.beq a b) w := by
  have key : isAggT P t = some true → keyT P 10 t κ = true → ∀ (a b : κ.den) (va vb : Value) (w : World), rel K (valOf true κ a) va → rel K (valOf true κ b) vb → (Op.equal t va vb).run P w = .ok (κ.beq a b) w := by
    rintro ha hk a b va vb w ⟨xs, rfl, hx⟩ ⟨ys, rfl, hy⟩
    exact ((eqT_sound (K := K) 10 t _ _ _ ((keyT_eq 10 t κ hk).2 a b)).2 _ _ hx hy Op.maxDepth w (by decide)).1 ha
  unfold keyOk at h
  split at h
  · split at h
    · rename_i h0; cases h0
    · cases h
  · rename_i hu
    rw [hu]
    exact ⟨rfl, key (by simp [isAggT, hu]) h⟩
  · rename_i hu
    rw [hu]
    exact ⟨rfl, key (by simp [isAggT, hu]) h⟩
  · split at h
    · rename_i h0; cases h0
    · cases h

theorem findNow_ix {ka va : Bool} {κ τ : Ty} {desc : TypeDesc} (hs : ∀ (a b : κ.den) (x y : Value), rel K (valOf ka κ a) x → rel K (valOf ka κ b) y → Instr.sameNow desc x y = some (κ.beq a b)) {k : κ.den} {v : Value} (hv : rel K (valOf ka κ k) v) :
    ∀ (es : List (κ.den × τ.den)) (E : List MapEntry) (i : Nat), entsRel K ka va κ τ es E →
    (ixM k es = none ∧ Instr.findNow desc v E i = some none) ∨ ∃ j e, ixM k es = some j ∧ E[j]? = some e ∧ Instr.findNow desc v E i = some (some (i + j, e.val))
  | [], E, i, h => by cases (h : E = []); exact .inl ⟨rfl, rfl⟩
  | x :: es, E, i, ⟨e, rest, eE, hk, _, hr⟩ => by
    subst eE
    have h1 := hs k x.1 v e.key hv hk
    cases hb : κ.beq k x.1
    · rw [hb] at h1
      rcases findNow_ix hs hv es rest (i + 1) hr with ⟨h2, h3⟩ | ⟨j, e', h2, h3, h4⟩
      · exact .inl ⟨by simp [ixM, hb, h2], by simp [Instr.findNow, h1, h3]⟩
      · exact .inr ⟨j + 1, e', by simp [ixM, hb, h2], by simpa using h3, by simp [Instr.findNow, h1, h4, Nat.add_assoc, Nat.add_comm 1 j]⟩
    · rw [hb] at h1
      exact .inr ⟨0, e, by simp [ixM, hb], rfl, by simp [Instr.findNow, h1]⟩

theorem findAsk_ix {w : World} {t : TypeId} {ka va : Bool} {κ τ : Ty} (hs : ∀ (a b : κ.den) (x y : Value) (w : World), rel K (valOf ka κ a) x → rel K (valOf ka κ b) y → (Op.equal t x y).run P w = .ok (κ.beq a b) w) {k : κ.den} {v : Value} (hv : rel K (valOf ka κ k) v) :
    ∀ (es : List (κ.den × τ.den)) (E : List MapEntry) (i : Nat), entsRel K ka va κ τ es E →
    (ixM k es = none ∧ (Instr.findAsking t v E i).run P w = .ok none w) ∨ ∃ j e, ixM k es = some j ∧ E[j]? = some e ∧ (Instr.findAsking t v E i).run P w = .ok (some (i + j, e.val)) w
  | [], E, i, h => by cases (h : E = []); exact .inl ⟨rfl, by simp [Instr.findAsking]⟩
  | x :: es, E, i, ⟨e, rest, eE, hk, _, hr⟩ => by
    subst eE
    have h1 := hs k x.1 v e.key w hv hk
    cases hb : κ.beq k x.1
    · rw [hb] at h1
      rcases findAsk_ix (w := w) hs hv es rest (i + 1) hr with ⟨h2, h3⟩ | ⟨j, e', h2, h3, h4⟩
      · exact .inl ⟨by simp [ixM, hb, h2], by simp [Instr.findAsking, h1, h3]⟩
      · exact .inr ⟨j + 1, e', by simp [ixM, hb, h2], by simpa using h3, by simp [Instr.findAsking, h1, h4, Nat.add_assoc, Nat.add_comm 1 j]⟩
    · rw [hb] at h1
      exact .inr ⟨0, e, by simp [ixM, hb], rfl, by simp [Instr.findAsking, h1]⟩

theorem find_sound {w : World} {t : TypeId} {ka va : Bool} {κ τ : Ty} (h : keyOk P t κ ka = true) {k : κ.den} {v : Value} (hv : rel K (valOf ka κ k) v) {es : List (κ.den × τ.den)} {E : List MapEntry} (he : entsRel K ka va κ τ es E) :
    (ixM k es = none ∧ (Instr.findKey t v E).run P w = .ok none w) ∨ ∃ j e, ixM k es = some j ∧ E[j]? = some e ∧ (Instr.findKey t v E).run P w = .ok (some (j, e.val)) w := by
  cases ka
  · obtain ⟨desc, hu, hs⟩ := same_sc (K := K) h
    rcases findNow_ix hs hv es E 0 he with ⟨h1, h2⟩ | ⟨j, e, h1, h2, h3⟩
    · exact .inl ⟨h1, run_findKey hu h2⟩
    · rw [Nat.zero_add] at h3
      exact .inr ⟨j, e, h1, h2, run_findKey hu h3⟩
  · obtain ⟨hw, hs⟩ := same_agg (K := K) h
    rw [run_findKey_eq w hw]
    rcases findAsk_ix (w := w) hs hv es E 0 he with h1 | ⟨j, e, h1, h2, h3⟩
    · exact .inl h1
    · rw [Nat.zero_add] at h3
      exact .inr ⟨j, e, h1, h2, h3⟩

theorem ents_get {ka va : Bool} {κ τ : Ty} : ∀ {es : List (κ.den × τ.den)} {E : List MapEntry} (_ : entsRel K ka va κ τ es E) (j : Nat) (e : MapEntry), E[j]? = some e → ∃ x, es[j]? = some x ∧ rel K (valOf ka κ x.1) e.key ∧ rel K (valOf va τ x.2) e.val
  | [], E, h, j, e, hj => by cases (h : E = []); simp at hj
  | x :: es, E, ⟨e', rest, eE, h1, h2, hr⟩, 0, e, hj => by subst eE; simp at hj; subst hj; exact ⟨x, rfl, h1, h2⟩
  | x :: es, E, ⟨e', rest, eE, h1, h2, hr⟩, j + 1, e, hj => by subst eE; simpa using ents_get hr j e (by simpa using hj)

theorem ents_len {ka va : Bool} {κ τ : Ty} : ∀ {es : List (κ.den × τ.den)} {E : List MapEntry}, entsRel K ka va κ τ es E → E.length = es.length
  | [], E, h => by cases (h : E = []); rfl
  | x :: es, E, ⟨e', rest, eE, h1, h2, hr⟩ => by subst eE; simp [ents_len hr]

theorem findM_ix {κ : Ty} {α : Type} (k : κ.den) : ∀ (es : List (κ.den × α)), findM k es = (ixM k es).bind fun j => (es[j]?).map (·.2)
  | [] => rfl
  | (a, v) :: es => by
    cases hb : κ.beq k a
    · simp only [findM, ixM, hb, findM_ix k es]
      cases ixM k es <;> simp
    · simp [findM, ixM, hb]

end Go.Tw

/- All operations that read. -/
namespace Go.Tw
open Go

variable {P : Program} {K : KW}

def isAggV : Value → Bool
  | .agg _ => true
  | _ => false

theorem cells_one {v : Value} (h : isAggV v = false) : v.cells = #[v] := by cases v <;> first | rfl | cases h

theorem agg_rel {a : AV} {v : Value} (h : rel K a v) (hu : a ≠ .undef) : isAggV v = aggV a := by
  cases a
  case agg => obtain ⟨x, rfl, _⟩ := h; rfl
  case undef => exact absurd rfl hu
  case tup => obtain ⟨x, rfl, _⟩ := h; rfl
  case barr => exact h.elim
  case i => cases (h : v = _); rfl
  case u => cases (h : v = _); rfl
  case bool => cases (h : v = _); rfl
  case str => cases (h : v = _); rfl
  case nilptr => cases (h : v = _); rfl
  case ptr => obtain ⟨L, _, _, rfl⟩ := h; rfl
  case rptr => obtain ⟨L, _, _, rfl, _⟩ := h; rfl
  case iptr => obtain ⟨_, _, _, _, _, _, _, _, rfl⟩ := h; rfl
  case nilsl => cases (h : v = _); rfl
  case slr => obtain ⟨L, a, c, _, rfl, _⟩ := h; rfl
  case slc => obtain ⟨L, c, _, _, rfl, _⟩ := h; rfl
  case imm => obtain ⟨c, ⟨a, rfl, _⟩, _⟩ := h; rfl
  case map => obtain ⟨L, _, rfl⟩ := h; rfl
  case nilmap => cases (h : v = _); rfl
  case fn => obtain ⟨a, b, rfl, _⟩ := h; rfl
  case nilfn => cases (h : v = _); rfl
  case yld => obtain ⟨L, _, rfl⟩ := h; rfl

theorem valOf_rel {va : Bool} {τ : Ty} {x : τ.den} {v : Value} (h : relT K.S τ x v.cells.toList) (ha : isAggV v = va) : rel K (valOf va τ x) v := by
  have h := relCs_embed.2 h
  cases va
  · rw [cells_one ha] at h
    unfold valOf
    simp only
    split
    · rename_i c he
      rw [he] at h
      have h1 := one_rel h
      split
      · trivial
      · cases c <;> first
          | exact h1.elim
          | (rename_i hb; exact (hb _ _ rfl).elim)
          | (obtain ⟨v', e, hv⟩ := h1; simp at e; subst e; exact hv)
    · trivial
  · cases v <;> first | exact ⟨_, rfl, h⟩ | cases ha

theorem aggZ_sound {t : TypeId} {va : Bool} (h : aggZ P t = some va) {z : Value} {w : World} (hz : (zeroValue t).run P w = .ok z w) : isAggV z = va := by
  unfold aggZ at h
  split at h
  · rename_i i hi
    split at h
    · rename_i cs hz'
      cases h
      simp [zeroValue, typeInfo, hi, hz'] at hz
      subst hz; rfl
    · rename_i z' hne hz'
      cases h
      simp [zeroValue, typeInfo, hi, hz'] at hz
      subst hz
      cases z' <;> first | rfl | exact (hne _ rfl).elim
    · cases h
  · cases h

theorem zeroVal {t : TypeId} {τ : Ty} {va : Bool} (h1 : tyT P t = some τ) (h2 : aggZ P t = some va) (w : World) : ∃ z, (zeroValue t).run P w = .ok z w ∧ rel K (valOf va τ τ.zero) z := by
  obtain ⟨z, hz, hr, _⟩ := tyT_sound (K := K) h1
  exact ⟨z, hz w, valOf_rel hr (aggZ_sound h2 (hz w))⟩

theorem mapT_sound {t : TypeId} {ka va : Bool} {κ τ : Ty} (h : mapT P t = some (ka, va, κ, τ)) : ∃ k e, P.underlying t = some (.map k e) ∧ tyT P e = some τ ∧ aggZ P e = some va ∧ keyOk P k κ ka = true := by
  unfold mapT at h
  split at h
  · rename_i k e hu
    split at h
    · rename_i h1 h2 h3 h4
      split at h
      · rename_i hk
        cases h
        exact ⟨k, e, hu, h2, h4, hk⟩
      · cases h
    · cases h
  · cases h

theorem keyOk_flat {t : TypeId} {κ : Ty} {ka : Bool} (h : keyOk P t κ ka = true) : κ.pos := by
  unfold keyOk at h
  split at h
  · split at h
    · exact trivial
    · cases h
  · split at h
    · exact (keyT_eq _ _ _ h).1
    · cases h
  · split at h
    · exact (keyT_eq _ _ _ h).1
    · cases h
  · split at h
    · exact (keyT_eq _ _ _ h).1
    · cases h

/-- A key is taken as it is. -/
theorem reify_flat {h : Heap} : ∀ {κ : Ty} (_ : κ.pos) {cs : List AV} {vs : List Value} {Q : κ.den → List AV → Heap → Prop}, relCs K cs vs → reifyK Alg.prop κ cs h Q →
    ∃ x rest us ws, vs = us ++ ws ∧ relT K.S κ x us ∧ relCs K rest ws ∧ Q x rest h
  | .i k, _, cs, vs, Q, hr, hk => by
    simp only [reifyK] at hk
    split at hk
    · obtain ⟨us, ws, e, ⟨v, rfl, hv⟩, hr⟩ := hr
      split at hk
      · rename_i hj
        cases (hv : v = _)
        subst hj
        exact ⟨_, _, _, ws, e, rfl, hr, hk⟩
      · exact hk.elim
    · exact hk.elim
  | .u k, _, cs, vs, Q, hr, hk => by
    simp only [reifyK] at hk
    split at hk
    · obtain ⟨us, ws, e, ⟨v, rfl, hv⟩, hr⟩ := hr
      split at hk
      · rename_i hj
        cases (hv : v = _)
        subst hj
        exact ⟨_, _, _, ws, e, rfl, hr, hk⟩
      · exact hk.elim
    · exact hk.elim
  | .bool, _, cs, vs, Q, hr, hk => by
    simp only [reifyK] at hk
    split at hk
    · obtain ⟨us, ws, e, ⟨v, rfl, hv⟩, hr⟩ := hr
      cases (hv : v = _)
      exact ⟨_, _, _, ws, e, rfl, hr, hk⟩
    · exact hk.elim
  | .str, _, cs, vs, Q, hr, hk => by
    simp only [reifyK] at hk
    split at hk
    · obtain ⟨us, ws, e, ⟨v, rfl, hv⟩, hr⟩ := hr
      cases (hv : v = _)
      exact ⟨_, _, _, ws, e, rfl, hr, hk⟩
    · exact hk.elim
  | .pair a b, ⟨pa, pb⟩, cs, vs, Q, hr, hk => by
    simp only [reifyK] at hk
    obtain ⟨x, rest, us, ws, rfl, hx, hr, hk⟩ := reify_flat pa hr hk
    obtain ⟨y, rest2, us2, ws2, rfl, hy, hr, hk⟩ := reify_flat pb hr hk
    exact ⟨(x, y), rest2, us ++ us2, ws2, by simp, ⟨us, us2, rfl, hx, hy⟩, hr, hk⟩
  | .sl _, hp, _, _, _, _, _ => hp.elim
  | .barr n, _, cs, vs, Q, hr, hk => by
    simp only [reifyK] at hk
    split at hk
    · obtain ⟨us, ws, e, ⟨hl, hv⟩, hr⟩ := hr
      split at hk
      · rename_i hj
        subst hj
        exact ⟨_, _, _, ws, e, ⟨hl, hv⟩, hr, hk⟩
      · exact hk.elim
    · exact hk.elim

theorem width_pos {τ : Ty} (h : τ.pos) : 0 < τ.cells := by
  induction τ with
  | pair a b iha ihb => have := iha h.1; simp only [Ty.cells]; omega
  | barr n => exact h
  | _ => first | exact h.elim | simp [Ty.cells]

def solid : AV → Bool
  | .undef | .agg _ | .tup _ => false
  | _ => true

theorem reify_head {h : Heap} : ∀ {κ : Ty} {cs : List AV} {Q : κ.den → List AV → Heap → Prop}, reifyK Alg.prop κ cs h Q → ∃ c rest, cs = c :: rest ∧ solid c = true
  | .i k, cs, Q, hk => by
    simp only [reifyK] at hk
    split at hk
    · exact ⟨_, _, rfl, rfl⟩
    · exact hk.elim
  | .u k, cs, Q, hk => by
    simp only [reifyK] at hk
    split at hk
    · exact ⟨_, _, rfl, rfl⟩
    · exact hk.elim
  | .bool, cs, Q, hk => by
    simp only [reifyK] at hk
    split at hk
    · exact ⟨_, _, rfl, rfl⟩
    · exact hk.elim
  | .str, cs, Q, hk => by
    simp only [reifyK] at hk
    split at hk
    · exact ⟨_, _, rfl, rfl⟩
    · exact hk.elim
  | .pair a b, cs, Q, hk => by
    simp only [reifyK] at hk
    exact reify_head hk
  | .sl _, cs, Q, hk => by
    simp only [reifyK] at hk
    split at hk
    · exact ⟨_, _, rfl, rfl⟩
    · exact ⟨_, _, rfl, rfl⟩
    · exact ⟨_, _, rfl, rfl⟩
    · exact hk.elim
  | .barr n, cs, Q, hk => by
    simp only [reifyK] at hk
    split at hk
    · exact ⟨_, _, rfl, rfl⟩
    · exact hk.elim

theorem reify_cells {h : Heap} {κ : Ty} {a : AV} {v : Value} (hv : rel K a v) {Q : κ.den → List AV → Heap → Prop} (hk : reifyK Alg.prop κ a.cellsOf h Q) : relCs K a.cellsOf v.cells.toList ∧ a ≠ .undef := by
  obtain ⟨c, rest, e, hs⟩ := reify_head hk
  cases a
  case agg cs => obtain ⟨arr, rfl, hr⟩ := hv; exact ⟨hr, by simp⟩
  case undef => simp [AV.cellsOf] at e; rw [← e.1] at hs; cases hs
  case tup => simp [AV.cellsOf] at e; rw [← e.1] at hs; cases hs
  case barr => exact hv.elim
  all_goals exact ⟨cellsOf_rel hv (by simp [AV.cellsOf, widthC, AV.width]), by simp⟩

/-- A value as a key. -/
theorem key_sound {h : Heap} {t : TypeId} {κ : Ty} {ka : Bool} (hok : keyOk P t κ ka = true) {a : AV} {v : Value} (hv : rel K a v) (ha : aggV a = ka) {Q : κ.den → Heap → Prop} (hk : reify1K Alg.prop κ a h Q) :
    ∃ x, rel K (valOf ka κ x) v ∧ Q x h := by
  unfold reify1K at hk
  obtain ⟨hc, hne⟩ := reify_cells hv hk
  obtain ⟨x, rest, us, ws, e, hx, hr, hk⟩ := reify_flat (keyOk_flat hok) hc hk
  split at hk
  · cases (hr : ws = [])
    rw [List.append_nil] at e
    subst e
    exact ⟨x, valOf_rel hx ((agg_rel hv hne).trans ha), hk⟩
  · exact hk.elim

theorem found_sound {va ok : Bool} {τ : Ty} {r : Option τ.den} {v : Value} {Q : AV → Prop} (hv : rel K (valOf va τ (r.getD τ.zero)) v) (hk : foundK va ok τ r Q) :
    ∃ av, rel K av (if ok then .tuple #[v, .bool r.isSome] else v) ∧ Q av := by
  unfold foundK at hk
  split at hk
  · split at hk
    · exact ⟨_, by rw [if_pos rfl]; exact ⟨_, rfl, _, _, rfl, hv, _, _, rfl, rfl, rfl⟩, hk⟩
    · exact ⟨_, hv, hk⟩
  · split at hk
    · exact ⟨_, by rw [if_pos rfl]; exact ⟨_, rfl, _, _, rfl, hv, _, _, rfl, rfl, rfl⟩, hk⟩
    · exact ⟨_, hv, hk⟩

theorem lookup_sound {h : Heap} {w : World} (hR : R K h w) {t : TypeId} {x ix : AV} {vx vi : Value} {ok : Bool} {Q : AV → Prop} (hx : rel K x vx) (hi : rel K ix vi) (hk : lookupK Alg.prop P h t x ix ok Q) :
    GivesAt P K w (Instr.lookup t vx vi ok) Q := by
  unfold lookupK at hk
  split at hk
  · exact hk.elim
  · rename_i ka va κ τ hm
    obtain ⟨k, e, hu, ht, hz, hok⟩ := mapT_sound hm
    split at hk
    · exact hk.elim
    · rename_i ha
      simp only [decide_eq_true_eq] at ha
      obtain ⟨kx, hkx, hk⟩ := key_sound hok hi ha hk
      obtain ⟨z, hz1, hz2⟩ := zeroVal (K := K) ht hz w
      split at hk
      · rename_i id
        split at hk
        · rename_i ka' va' κ' τ' es it hg
          obtain ⟨e1, hk1⟩ := castD_prop hk
          clear hk
          cases e1
          split at hk1
          · rename_i hd
            simp only [decide_eq_true_eq] at hd
            obtain ⟨rfl, rfl⟩ := hd
            obtain ⟨L, hL, rfl⟩ := hx
            obtain ⟨L', hL', _, E, clk, hb, he, _, _⟩ := hR.live _ _ hg
            cases hL.symm.trans hL'
            have hget := MapKept.run_getObj_map (P := P) hb
            have hchk := check_sound hok hkx E.isEmpty w
            have hk' : foundK va' ok τ (findM kx es) Q := hk1
            rw [findM_ix] at hk'
            rcases find_sound (w := w) hok hkx he with ⟨h1, h2⟩ | ⟨j, en, h1, h2, h3⟩
            · rw [h1] at hk'
              obtain ⟨av, hr, hq⟩ := found_sound (r := none) hz2 hk'
              exact ⟨_, av, by simp [Instr.lookup, run_underlying hu, hget, hchk, h2, hz1], hr, hq⟩
            · obtain ⟨xe, hxe, _, hrv⟩ := ents_get he j en h2
              rw [h1] at hk'
              simp only [Option.bind_some, hxe, Option.map_some] at hk'
              obtain ⟨av, hr, hq⟩ := found_sound (r := some xe.2) hrv hk'
              exact ⟨_, av, by simp [Instr.lookup, run_underlying hu, hget, hchk, h3], hr, hq⟩
          · exact hk1.elim
        · exact hk.elim
      · cases (hx : vx = _)
        have hchk := check_sound hok hkx true w
        have hf : (Instr.findKey k vi []).run P w = .ok none w := by
          rcases find_sound (w := w) (E := []) (es := ([] : List (κ.den × τ.den))) (ka := ka) (va := va) hok hkx rfl with ⟨h1, h2⟩ | ⟨j, en, h1, h2, h3⟩
          · exact h2
          · simp at h2
        obtain ⟨av, hr, hq⟩ := found_sound (r := none) hz2 hk
        exact ⟨_, av, by simp [Instr.lookup, run_underlying hu, hchk, hf, hz1], hr, hq⟩
      · exact hk.elim

theorem find_born {E : List MapEntry} (hn : (E.map (·.born)).Nodup) {e : MapEntry} (he : e ∈ E) : E.find? (fun x => x.born == e.born) = some e := by
  induction E with
  | nil => simp at he
  | cons x E ih =>
    simp only [List.map_cons, List.nodup_cons] at hn
    rcases List.mem_cons.1 he with rfl | he
    · simp
    · have : x.born ≠ e.born := fun h => hn.1 (h ▸ List.mem_map.2 ⟨e, he, rfl⟩)
      rw [List.find?_cons_of_neg (by simpa using this)]
      exact ih hn.2 he

theorem entry_sound {h : Heap} {w : World} (hR : R K h w) {it : AV} {vi : Value} {Q : AV → Prop} (hi : rel K it vi) (hk : entryK Alg.prop h it Q) : GivesAt P K w (Instr.entry vi) Q := by
  unfold entryK at hk
  split at hk
  · rename_i id
    obtain ⟨L, hL, _, rfl⟩ := hi
    split at hk
    · rename_i m hg
      split at hk
      · rename_i ka va κ τ es id' left k v hg'
        split at hk
        · rename_i hid
          subst hid
          obtain ⟨L1, hL1, _, hbase, _⟩ := hR.live _ _ hg
          cases hL.symm.trans hL1
          obtain ⟨L2, hL2, _, E, clk, hb, he, hborn, hit⟩ := hR.live _ _ hg'
          obtain ⟨L3, since, seen, stepped, hL3, hb3, _, _, hst, _, e, hmem, hback, hr1, hr2⟩ := hit
          cases hL.symm.trans hL3
          have hfind := find_born hborn.1 hmem
          have hget := MapKept.run_getObj_map (P := P) hb
          have hget1 : (getObj L.b).run P w = .ok (.mapIter (some L2.b) since seen stepped) w := by simp [getObj, Sem.run, hb3]
          have hfind' : E.find? (fun x => x.born == e.born) = some e := by rw [← Array.find?_toList]; exact hfind
          refine ⟨.tuple #[e.key, e.val], .tup [valOf ka κ k, valOf va τ v], ?_, ⟨_, rfl, _, _, rfl, hr1, _, _, rfl, hr2, rfl⟩, hk⟩
          simp [Instr.entry, hbase, hget1, hback, hget, hst, hfind']
        · exact hk.elim
      · exact hk.elim
    · exact hk.elim
  · exact hk.elim

theorem read_sound {h : Heap} {w : World} (hR : R K h w) {e : Operand → AV} {r : Operand → Value} (he : ∀ x, rel K (e x) (r x)) {o : Oper} {Q : AV → Prop} (hk : readK Alg.prop P h e o.op Q) :
    ∃ v av, (execOp r o).run P w = .ok (.value v) w ∧ rel K av v ∧ Q av := by
  have done : ∀ {s : Sem Value}, execOp r o = (do pure (.value (← s))) → GivesAt P K w s Q → ∃ v av, (execOp r o).run P w = .ok (.value v) w ∧ rel K av v ∧ Q av := by
    rintro s es ⟨v, av, h1, h2, h3⟩
    exact ⟨v, av, by rw [es]; simp [h1], h2, h3⟩
  obtain ⟨dst, op, type, pos, after, guard⟩ := o
  cases op <;> simp only [readK] at hk <;> try exact hk.elim
  case load t a => exact done rfl (load_sound hR (he a) hk)
  case entry it => exact done rfl (entry_sound hR (he it) hk)
  case lookup t x ix ok => exact done rfl (lookup_sound hR (he x) (he ix) hk)
  case convert s d x =>
    refine done rfl ?_
    split at hk
    · rename_i b hd hs
      split at hk
      · rename_i hb
        obtain ⟨xs, mid, hq, h1, h2⟩ := rowsOf_sound hR (he x) hk
        refine ⟨strV xs, .str xs, ?_, rfl, hq⟩
        have hs' := toStr_sound (P := P) h1 h2
        obtain ⟨a, c, hv, _⟩ := h1
        rw [hv] at hs' ⊢
        simp [convert, run_underlying hs, run_underlying hd, run_underlying hb, hs']
      · exact hk.elim
    · exact (conv_sound (he x) hk).at w
  case call c =>
    obtain ⟨callee, args, argTypes⟩ := c
    simp only at hk
    split at hk
    · rename_i t ts x xs ht ha
      have hr : rels K (args.toList.map e) (args.toList.map r) := rels_map he _
      rw [ha] at hr
      obtain ⟨vx, ws, ev, hx, _⟩ := hr
      have h0 : argTypes[0]? = some t := by rw [← Array.getElem?_toList, ht]; rfl
      have h1 : (args.map r)[0]? = some vx := by rw [← Array.getElem?_toList, Array.toList_map, ev]; rfl
      split at hk
      · rename_i kt et id hu
        split at hk
        · rename_i ka va κ τ es it hg
          obtain ⟨L, hL, rfl⟩ := hx
          obtain ⟨L', hL', _, E, clk, hb, hents, _, _⟩ := hR.live _ _ hg
          cases hL.symm.trans hL'
          have hget := MapKept.run_getObj_map (P := P) hb
          have hlen := ents_len hents
          rw [Array.length_toList] at hlen
          have hlen' : (Builtin.len_ argTypes type (args.map r)).run P w = .ok (.int .i64 (es.length : Int)) w := by
            simp [Builtin.len_, h0, h1, run_underlying hu, hget, goInt, hlen]
          exact ⟨_, .i .i64 (es.length : Int), by simp [execOp, resolve, invoke, builtin, hlen'], rfl, hk⟩
        · exact hk.elim
      · obtain ⟨n, hn, hrun⟩ := len_sound (P := P) (ty := type) h0 h1 hx hk
        exact ⟨_, .i .i64 (n : Int), by simp [execOp, resolve, invoke, builtin, hrun], rfl, hn⟩
    · exact hk.elim

end Go.Tw

/- What keeps plain memory right. -/
namespace Go.Tw
open Go

variable {P : Program} {K K' : KW} {h : Heap} {w w' : World}

theorem entsRel_mono (hle : K.le K') {ka va : Bool} {κ τ : Ty} : ∀ {es : List (κ.den × τ.den)} {E : List MapEntry}, entsRel K ka va κ τ es E → entsRel K' ka va κ τ es E
  | [], _, h => h
  | _ :: _, _, ⟨e, rest, eE, h1, h2, hr⟩ => ⟨e, rest, eE, rel_mono hle _ _ h1, rel_mono hle _ _ h2, entsRel_mono hle hr⟩

theorem defRel_mono (hle : K.le K') {a : ADef} {d : Deferred} (h : defRel K a d) : defRel K' a d := by
  cases a with
  | call f args => obtain ⟨cap, as, e, hr⟩ := h; exact ⟨cap, as, e, rels_mono hle _ _ hr⟩
  | mark id => obtain ⟨L, hL, e⟩ := h; exact ⟨L, hle.β _ _ hL, e⟩

theorem defsRel_mono (hle : K.le K') : ∀ {as : List ADef} {ds : List Deferred}, defsRel K as ds → defsRel K' as ds
  | [], _, h => h
  | _ :: _, _, ⟨d, rest, e, h, hr⟩ => ⟨d, rest, e, defRel_mono hle h, defsRel_mono hle hr⟩

theorem loopRel_mono (hle : K.le K') {l : ALoop} {r : Loop} (h : loopRel K l r) : loopRel K' l r :=
  ⟨h.state, h.pending, h.fn, rels_mono hle _ _ h.tmps, h.params, h.assign, h.body, let ⟨L, hL, e⟩ := h.defers; ⟨L, hle.β _ _ hL, e⟩⟩

theorem cellsAt_frame {L : Loc} {mid : List Value} (h : cellsAt w L mid) (e : w'.heap[L.b]? = w.heap[L.b]?) : cellsAt w' L mid := by
  obtain ⟨C, T, fr, pre, post, hb, r⟩ := h
  exact ⟨C, T, fr, pre, post, e.trans hb, r⟩

theorem blkRel_frame (hle : K.le K') {L : Loc} {blk : Blk} (hb : blkRel K L blk w) (h1 : L.virt = false → w'.heap[L.b]? = w.heap[L.b]?)
    (h2 : ∀ ka va κ τ es id left last, blk = .mp ka va κ τ es (some (id, left, last)) → ∀ L', K.β id = some L' → w'.heap[L'.b]? = w.heap[L'.b]?) : blkRel K' L blk w' := by
  cases blk with
  | cells cs => obtain ⟨hv, mid, hc, hr⟩ := hb; exact ⟨hv, mid, cellsAt_frame hc (h1 hv), relCs_mono hle _ _ hr⟩
  | rows τ xs =>
    obtain ⟨hs, hn, hr⟩ := hb
    refine ⟨hs, hn, ?_⟩
    rcases hr with hr | ⟨hv, mid, hc, hr⟩
    · exact .inl hr
    · exact .inr ⟨hv, mid, cellsAt_frame hc (h1 hv), relRows_imp (relT_mono hle.S τ) _ _ hr⟩
  | mp ka va κ τ es it =>
    obtain ⟨hv, E, clk, hb, he, hborn, hit⟩ := hb
    refine ⟨hv, E, clk, (h1 hv).trans hb, entsRel_mono hle he, hborn, ?_⟩
    cases it with
    | none => trivial
    | some x =>
      obtain ⟨id, left, last⟩ := x
      obtain ⟨L', since, seen, stepped, hL', hb', hb1, hb2, hst, hleft, hlast⟩ := hit
      refine ⟨L', since, seen, stepped, hle.β _ _ hL', (h2 _ _ _ _ _ _ _ _ rfl L' hL').trans hb', hb1, hb2, hst, entsRel_mono hle hleft, ?_⟩
      cases last with
      | none => trivial
      | some x => obtain ⟨e, hm, hback, r1, r2⟩ := hlast; exact ⟨e, hm, hback, rel_mono hle _ _ r1, rel_mono hle _ _ r2⟩
  | siter s p => exact hb.elim
  | miter m => obtain ⟨hv, h0, m', s, n, c, hb⟩ := hb; exact ⟨hv, h0, m', s, n, c, (h1 hv).trans hb⟩
  | loop l => obtain ⟨hv, r, hb, hr⟩ := hb; exact ⟨hv, r, (h1 hv).trans hb, loopRel_mono hle hr⟩
  | defd calls =>
    obtain ⟨hv, c, hb, hr⟩ := hb
    refine ⟨hv, c, (h1 hv).trans hb, ?_⟩
    cases calls <;> cases c <;> first | exact hr | exact defsRel_mono hle hr

/-- A block that is not virtual lies in memory. -/
theorem blkRel_bound {L : Loc} {blk : Blk} (hb : blkRel K L blk w) (hv : L.virt = false) : L.b < w.heap.size := by
  have key : ∀ {o : Obj}, w.heap[L.b]? = some o → L.b < w.heap.size := fun h => (Array.getElem?_eq_some_iff.1 h).1
  cases blk with
  | cells cs => obtain ⟨hv, mid, ⟨C, T, fr, pre, post, hb, r⟩, hr⟩ := hb; exact key hb
  | rows τ xs =>
    obtain ⟨hs, hn, hr⟩ := hb
    rcases hr with ⟨hv', _⟩ | ⟨hv, mid, ⟨C, T, fr, pre, post, hb, r⟩, hr⟩
    · rw [hv] at hv'; cases hv'
    · exact key hb
  | mp ka va κ τ es it => obtain ⟨hv, E, clk, hb, _⟩ := hb; exact key hb
  | siter s p => exact hb.elim
  | miter m => obtain ⟨hv, h0, m', s, n, c, hb⟩ := hb; exact key hb
  | loop l => obtain ⟨hv, r, hb, hr⟩ := hb; exact key hb
  | defd calls => obtain ⟨hv, c, hb, hr⟩ := hb; exact key hb

theorem iter_bound {L : Loc} {ka va : Bool} {κ τ : Ty} {es : List (κ.den × τ.den)} {id : Nat} {left : List (κ.den × τ.den)} {last : Option (κ.den × τ.den)} (hb : blkRel K L (.mp ka va κ τ es (some (id, left, last))) w) {L' : Loc} (hL : K.β id = some L') : L'.b < w.heap.size := by
  obtain ⟨hv, E, clk, hb, he, hborn, L2, since, seen, stepped, hL', hb', _⟩ := hb
  cases hL.symm.trans hL'
  exact (Array.getElem?_eq_some_iff.1 hb').1

def KW.new (K : KW) (id : Nat) (L : Loc) : KW := ⟨fun i => if i = id then some L else K.β i, K.S⟩
def KW.freeze (K : KW) (b : Nat) (C : Array Value) : KW := ⟨K.β, fun i => if i = b then some C else K.S i⟩

theorem KW.le_new {id : Nat} {L : Loc} (hd : K.β id = none) : K.le (K.new id L) :=
  ⟨fun i L' hi => by
    show (if i = id then some L else K.β i) = some L'
    rw [if_neg (fun e => by rw [e, hd] at hi; cases hi)]; exact hi, fun _ _ h => h⟩

theorem R.fresh (hR : R K h w) : K.β h.next = none := by
  cases hb : K.β h.next with
  | none => rfl
  | some L => exact absurd (hR.dom _ _ hb) (Nat.lt_irrefl _)

theorem KW.new_self {id : Nat} {L : Loc} : (K.new id L).β id = some L := if_pos rfl
theorem KW.new_of {id i : Nat} {L L' : Loc} (h : (K.new id L).β i = some L') : (i = id ∧ L = L') ∨ K.β i = some L' := by
  by_cases e : i = id
  · left; subst e; exact ⟨rfl, Option.some.inj ((if_pos rfl : (if i = i then some L else K.β i) = some L).symm.trans h)⟩
  · right; exact (if_neg e : (if i = id then some L else K.β i) = K.β i).symm.trans h

theorem R.stab_bound (hR : R K h w) {b : Nat} {C : Array Value} (hs : K.S b = some C) : b < w.heap.size := by
  obtain ⟨T, fr, hb⟩ := hR.stab _ _ hs
  exact (Array.getElem?_eq_some_iff.1 hb).1

theorem R.S_out (hR : R K h w) {b : Nat} (hb : w.heap.size ≤ b) : K.S b = none := by
  cases hs : K.S b with
  | none => rfl
  | some C => exact absurd (hR.stab_bound hs) (by omega)

/-- A new block, for a new thing. -/
theorem R.push (hR : R K h w) {o : Obj} {blk : Blk} {L : Loc} (hL : L.b = w.heap.size) (hv : L.virt = false) (hblk : blkRel (K.new h.next L) L blk { w with heap := w.heap.push o })
    (hit : ∀ ka va κ τ es id left last, blk ≠ .mp ka va κ τ es (some (id, left, last))) :
    R (K.new h.next L) (h.push blk) { w with heap := w.heap.push o } ∧ Ext K h w (K.new h.next L) (h.push blk) { w with heap := w.heap.push o } := by
  have hle : K.le (K.new h.next L) := KW.le_new hR.fresh
  have old : ∀ b, b < w.heap.size → (w.heap.push o)[b]? = w.heap[b]? := fun b hb => by simp [Array.getElem?_push, Nat.ne_of_lt hb]
  refine ⟨⟨?_, ?_, ?_, ?_, ?_, ?_⟩, ⟨hle, by simp, fun b hb _ => old b hb, ?_, by simp, rfl, rfl, rfl, fun _ _ _ => rfl⟩⟩
  · intro id b hg
    rw [Heap.get_push] at hg
    split at hg
    · rename_i e
      cases hg
      exact ⟨L, by rw [e]; exact KW.new_self, hblk⟩
    · obtain ⟨L', hL', hb'⟩ := hR.live _ _ hg
      refine ⟨L', hle.β _ _ hL', blkRel_frame hle hb' (fun hv => old _ (blkRel_bound hb' hv)) ?_⟩
      rintro ka va κ τ es id' left last rfl L2 hL2
      exact old _ (iter_bound hb' hL2)
  · intro id id' x y L1 L2 h1 h2 k1 k2 v1 v2 e
    rw [Heap.get_push] at h1 h2
    rcases KW.new_of k1 with ⟨e1, el1⟩ | k1 <;> rcases KW.new_of k2 with ⟨e2, el2⟩ | k2
    · rw [e1, e2]
    · subst el1
      by_cases e2 : id' = h.next
      · rw [e1, e2]
      · rw [if_neg e2] at h2
        obtain ⟨L3, hL3, hb3⟩ := hR.live _ _ h2
        cases k2.symm.trans hL3
        have := blkRel_bound hb3 v2
        omega
    · subst el2
      by_cases e1 : id = h.next
      · rw [e1, e2]
      · rw [if_neg e1] at h1
        obtain ⟨L3, hL3, hb3⟩ := hR.live _ _ h1
        cases k1.symm.trans hL3
        have := blkRel_bound hb3 v1
        omega
    · have n1 : id ≠ h.next := fun e => by rw [e, hR.fresh] at k1; cases k1
      have n2 : id' ≠ h.next := fun e => by rw [e, hR.fresh] at k2; cases k2
      rw [if_neg n1] at h1
      rw [if_neg n2] at h2
      exact hR.inj _ _ _ _ _ _ h1 h2 k1 k2 v1 v2 e
  · intro id L' hL'
    rw [Heap.next_push]
    rcases KW.new_of hL' with ⟨e, _⟩ | hL'
    · omega
    · have := hR.dom _ _ hL'; omega
  · intro b C hs
    obtain ⟨T, fr, hb⟩ := hR.stab _ _ hs
    exact ⟨T, fr, (old _ (hR.stab_bound hs)).trans hb⟩
  · intro id x L' hg hL' hv'
    rcases KW.new_of hL' with ⟨e, el⟩ | hL'
    · subst el; exact hR.S_out (by omega)
    · have n1 : id ≠ h.next := fun e => by rw [e, hR.fresh] at hL'; cases hL'
      rw [Heap.get_push, if_neg n1] at hg
      exact hR.sep _ _ _ hg hL' hv'
  · intro m ka va κ τ es id left last hg
    rw [Heap.get_push] at hg
    split at hg
    · exact absurd (Option.some.inj hg) (hit _ _ _ _ _ _ _ _)
    · have := hR.iters _ _ _ _ _ _ _ _ _ hg
      rw [Heap.get_push, if_neg]
      · exact this
      · rintro rfl
        obtain ⟨L1, hL1, _⟩ := hR.live _ _ this
        rw [hR.fresh] at hL1; cases hL1
  · rintro b hb ⟨id, x, L', hg, hL', hv', rfl⟩
    rcases KW.new_of hL' with ⟨e, el⟩ | hL'
    · subst el; omega
    · have n1 : id ≠ h.next := fun e => by rw [e, hR.fresh] at hL'; cases hL'
      rw [Heap.get_push, if_neg n1] at hg
      exact ⟨id, x, L', hg, hL', hv', rfl⟩

/-- A world that differs in memory alone. -/
structure Like (w w' : World) : Prop where
  size : w'.heap.size = w.heap.size
  os : w'.os = w.os
  output : w'.output = w.output
  tape : w'.tape = w.tape

/-- A thing changes. -/
theorem R.setG (hR : R K h w) {id : Nat} {old blk : Blk} {L : Loc} (hg : h.get id = some old) (hL : K.β id = some L) (hw : Like w w') (hblk : blkRel K L blk w')
    (hothers : ∀ k x Lk, k ≠ id → h.get k = some x → K.β k = some Lk → blkRel K Lk x w → blkRel K Lk x w')
    (hstab : ∀ b C, K.S b = some C → w'.heap[b]? = w.heap[b]?) (hkeep : ∀ b, ¬ Blocks K h b → w'.heap[b]? = w.heap[b]?)
    (hnm : ∀ m, old ≠ .miter m)
    (hit : ∀ ka va κ τ es i left last, blk = .mp ka va κ τ es (some (i, left, last)) → h.get i = some (.miter id)) :
    R K (h.set id blk) w' ∧ Ext K h w K (h.set id blk) w' := by
  have live' : ∀ k x, (h.set id blk).get k = some x → ∃ y, h.get k = some y ∧ (x = y ∨ k = id) := by
    intro k x hk
    rw [Heap.get_set] at hk
    split at hk
    · rename_i e; exact ⟨old, e ▸ hg, .inr e⟩
    · exact ⟨x, hk, .inl rfl⟩
  have miter : ∀ i m, h.get i = some (.miter m) → (h.set id blk).get i = some (.miter m) := by
    intro i m hi
    rw [Heap.get_set, if_neg]
    · exact hi
    · rintro rfl; rw [hg] at hi; cases hi; exact hnm _ rfl
  refine ⟨⟨?_, ?_, ?_, ?_, ?_, ?_⟩, ⟨.refl K, by rw [hw.size]; exact Nat.le_refl _, fun b _ hb => hkeep b hb, ?_, Nat.le_refl _, hw.os, hw.output, hw.tape, fun _ _ _ => rfl⟩⟩
  · intro k x hk
    rw [Heap.get_set] at hk
    split at hk
    · rename_i e; cases hk; subst e; exact ⟨L, hL, hblk⟩
    · rename_i e
      obtain ⟨Lk, hLk, hb⟩ := hR.live _ _ hk
      exact ⟨Lk, hLk, hothers k x Lk e hk hLk hb⟩
  · intro k k' x y Lk Lk' h1 h2 k1 k2 v1 v2 e
    obtain ⟨x', g1, _⟩ := live' _ _ h1
    obtain ⟨y', g2, _⟩ := live' _ _ h2
    exact hR.inj _ _ _ _ _ _ g1 g2 k1 k2 v1 v2 e
  · intro k Lk hk; exact hR.dom k Lk hk
  · intro b C hs
    obtain ⟨T, fr, hb⟩ := hR.stab _ _ hs
    exact ⟨T, fr, (hstab _ _ hs).trans hb⟩
  · intro k x Lk hk hLk hv
    obtain ⟨y, g, _⟩ := live' _ _ hk
    exact hR.sep _ _ _ g hLk hv
  · intro m ka va κ τ es i left last hm
    rw [Heap.get_set] at hm
    split at hm
    · rename_i e
      subst e
      exact miter _ _ (hit _ _ _ _ _ _ _ _ (Option.some.inj hm))
    · exact miter _ _ (hR.iters _ _ _ _ _ _ _ _ _ hm)
  · rintro b _ ⟨k, x, Lk, hk, hLk, hv, e⟩
    obtain ⟨y, g, _⟩ := live' _ _ hk
    exact ⟨k, y, Lk, g, hLk, hv, e⟩

/-- A world in which one block is another one. -/
def putB (w : World) (b : Nat) (o : Obj) : World := { w with heap := w.heap.setIfInBounds b o }

theorem putB_like (w : World) (b : Nat) (o : Obj) : Like w (putB w b o) := ⟨by simp [putB], rfl, rfl, rfl⟩
theorem putB_self {b : Nat} {o : Obj} (h : b < w.heap.size) : (putB w b o).heap[b]? = some o := by simp [putB, h]
theorem putB_other {b c : Nat} {o : Obj} (h : c ≠ b) : (putB w b o).heap[c]? = w.heap[c]? := by simp [putB, Ne.symm h]

/-- A thing and its block change. -/
theorem R.setB (hR : R K h w) {id : Nat} {old blk : Blk} {L : Loc} (hg : h.get id = some old) (hL : K.β id = some L) (hv : L.virt = false) {o : Obj} (hblk : blkRel K L blk (putB w L.b o))
    (hnm : ∀ m, old ≠ .miter m) (hit : ∀ ka va κ τ es i left last, blk ≠ .mp ka va κ τ es (some (i, left, last))) :
    R K (h.set id blk) (putB w L.b o) ∧ Ext K h w K (h.set id blk) (putB w L.b o) := by
  refine hR.setG hg hL (putB_like w L.b o) hblk ?_ ?_ ?_ hnm fun ka va κ τ es i left last e => absurd e (hit _ _ _ _ _ _ _ _)
  · intro k x Lk hk hgk hLk hb
    refine blkRel_frame (.refl K) hb (fun hvk => putB_other fun e => hk (hR.inj _ _ _ _ _ _ hgk hg hLk hL hvk hv e)) ?_
    rintro ka va κ τ es i left last rfl Li hLi
    have hi := hR.iters _ _ _ _ _ _ _ _ _ hgk
    obtain ⟨Li', hLi', hbi⟩ := hR.live _ _ hi
    cases hLi.symm.trans hLi'
    refine putB_other fun e => ?_
    have := hR.inj _ _ _ _ _ _ hi hg hLi hL hbi.1 hv e
    subst this
    rw [hg] at hi; cases hi
    exact hnm _ rfl
  · intro b C hs
    refine putB_other ?_
    rintro rfl
    have := hR.sep _ _ _ hg hL hv
    rw [this] at hs; cases hs
  · intro b hb
    refine putB_other ?_
    rintro rfl
    exact hb ⟨id, old, L, hg, hL, hv, rfl⟩

/-- A thing is known anew, and memory is as it was. -/
theorem R.setV (hR : R K h w) {id : Nat} {old blk : Blk} {L : Loc} (hg : h.get id = some old) (hL : K.β id = some L) (hblk : blkRel K L blk w) (hnm : ∀ m, old ≠ .miter m)
    (hit : ∀ ka va κ τ es i left last, blk = .mp ka va κ τ es (some (i, left, last)) → h.get i = some (.miter id)) :
    R K (h.set id blk) w ∧ Ext K h w K (h.set id blk) w :=
  hR.setG hg hL ⟨rfl, rfl, rfl, rfl⟩ hblk (fun _ _ _ _ _ _ hb => hb) (fun _ _ _ => rfl) (fun _ _ => rfl) hnm hit

/-- A thing is given up. -/
theorem R.drop (hR : R K h w) {id : Nat} {τ : Ty} {xs : List τ.den} (hg : h.get id = some (.rows τ xs)) : R K (h.drop id) w ∧ Ext K h w K (h.drop id) w := by
  have live' : ∀ k x, (h.drop id).get k = some x → h.get k = some x := by
    intro k x hk
    rw [Heap.get_drop] at hk
    split at hk
    · cases hk
    · exact hk
  refine ⟨⟨fun k x hk => hR.live k x (live' k x hk), fun k k' x y Lk Lk' h1 h2 => hR.inj _ _ _ _ _ _ (live' _ _ h1) (live' _ _ h2), fun k Lk hk => hR.dom k Lk hk, hR.stab, fun k x Lk hk => hR.sep _ _ _ (live' _ _ hk), ?_⟩,
    ⟨.refl K, Nat.le_refl _, fun _ _ _ => rfl, ?_, Nat.le_refl _, rfl, rfl, rfl, fun _ _ _ => rfl⟩⟩
  · intro m ka va κ τ' es i left last hm
    have := hR.iters _ _ _ _ _ _ _ _ _ (live' _ _ hm)
    rw [Heap.get_drop, if_neg]
    · exact this
    · rintro rfl; rw [hg] at this; cases this
  · rintro b _ ⟨k, x, Lk, hk, r⟩
    exact ⟨k, x, Lk, live' _ _ hk, r⟩

/-- A block that is nobody's own any more never changes. -/
theorem R.freeze (hR : R K h w) {b : Nat} {C : Array Value} {T : TypeId} {fr : Nat × Nat} (hb : w.heap[b]? = some (.cells C T fr)) (hfree : ¬ Blocks K h b) (hS : ∀ C', K.S b = some C' → C' = C) :
    R (K.freeze b C) h w ∧ K.le (K.freeze b C) := by
  have hle : K.le (K.freeze b C) := ⟨fun _ _ h => h, fun b' C' hs => by
    show (if b' = b then some C else K.S b') = some C'
    split
    · rename_i e; subst e; rw [hS _ hs]
    · exact hs⟩
  refine ⟨⟨?_, hR.inj, hR.dom, ?_, ?_, hR.iters⟩, hle⟩
  · intro k x hk
    obtain ⟨L, hL, hb⟩ := hR.live k x hk
    exact ⟨L, hL, blkRel_frame hle hb (fun _ => rfl) (fun _ _ _ _ _ _ _ _ _ _ _ => rfl)⟩
  · intro b' C' hs
    have hs : (if b' = b then some C else K.S b') = some C' := hs
    split at hs
    · rename_i e; cases hs; subst e; exact ⟨T, fr, hb⟩
    · exact hR.stab _ _ hs
  · intro k x L hk hL hv
    show (if L.b = b then some C else K.S L.b) = none
    rw [if_neg]
    · exact hR.sep _ _ _ hk hL hv
    · rintro rfl; exact hfree ⟨k, x, L, hk, hL, hv, rfl⟩

theorem Ext.freeze {K1 : KW} {h1 : Heap} {w1 : World} (hE : Ext K h w K1 h1 w1) {b : Nat} {C : Array Value} (hle : K1.le (K1.freeze b C)) (hb : w.heap.size ≤ b ∨ Blocks K h b) : Ext K h w (K1.freeze b C) h1 w1 :=
  ⟨hE.le.trans hle, hE.size, hE.keep, hE.own, hE.next, hE.os, hE.output, hE.tape, fun b' hb' hn => by
    have hne : b' ≠ b := by rintro rfl; rcases hb with hb | hb; exact Nat.not_le.2 hb' hb; exact hn hb
    show (if b' = b then some C else K1.S b') = _
    rw [if_neg hne]; exact hE.stable b' hb' hn⟩

theorem Ext.drew (hR : R K h w) (n : Nat) : R K h { w with drawn := n } ∧ Ext K h w K h { w with drawn := n } := by
  refine ⟨⟨fun k x hk => ?_, hR.inj, hR.dom, hR.stab, hR.sep, hR.iters⟩, ⟨.refl K, Nat.le_refl _, fun _ _ _ => rfl, fun _ _ hb => hb, Nat.le_refl _, rfl, rfl, rfl, fun _ _ _ => rfl⟩⟩
  obtain ⟨L, hL, hb⟩ := hR.live k x hk
  exact ⟨L, hL, blkRel_frame (.refl K) hb (fun _ => rfl) (fun _ _ _ _ _ _ _ _ _ _ _ => rfl)⟩

end Go.Tw

/- Storing, and a thing that takes another one's place. -/
namespace Go.Tw
open Go

variable {P : Program} {K K' : KW} {h : Heap} {w w' : World}

/-- A thing takes another one's place, and its block. -/
theorem R.renew (hR : R K h w) {id : Nat} {τ : Ty} {xs : List τ.den} {L L' : Loc} (hg : h.get id = some (.rows τ xs)) (hL : K.β id = some L) (hL' : L'.virt = false → L.virt = false ∧ L'.b = L.b)
    (hw : Like w w') (hmem : ∀ b, (b ≠ L.b ∨ L.virt = true) → w'.heap[b]? = w.heap[b]?) {blk : Blk} (hblk : blkRel (K.new h.next L') L' blk w') (hit : ∀ ka va κ τ es i left last, blk ≠ .mp ka va κ τ es (some (i, left, last))) :
    R (K.new h.next L') ((h.drop id).push blk) w' ∧ Ext K h w (K.new h.next L') ((h.drop id).push blk) w' := by
  have hle : K.le (K.new h.next L') := KW.le_new hR.fresh
  have get' : ∀ k x, ((h.drop id).push blk).get k = some x → (k = h.next ∧ x = blk) ∨ (k ≠ h.next ∧ k ≠ id ∧ h.get k = some x) := by
    intro k x hk
    rw [Heap.get_push, Heap.get_drop, Heap.next_drop] at hk
    split at hk
    · rename_i e; cases hk; exact .inl ⟨e, rfl⟩
    · rename_i e
      split at hk
      · cases hk
      · rename_i e2; exact .inr ⟨e, e2, hk⟩
  have keep' : ∀ k x, h.get k = some x → k ≠ id → k < h.next → ((h.drop id).push blk).get k = some x := by
    intro k x hk hne hlt
    rw [Heap.get_push, Heap.get_drop, Heap.next_drop, if_neg (by omega), if_neg hne]; exact hk
  have past : ∀ k Lk, K.β k = some Lk → k ≠ h.next := fun k Lk hk e => by rw [e, hR.fresh] at hk; cases hk
  refine ⟨⟨?_, ?_, ?_, ?_, ?_, ?_⟩, ⟨hle, by rw [hw.size]; exact Nat.le_refl _, ?_, ?_, ?_, hw.os, hw.output, hw.tape, fun _ _ _ => rfl⟩⟩
  · intro k x hk
    rcases get' k x hk with ⟨rfl, rfl⟩ | ⟨e1, e2, hk⟩
    · exact ⟨L', KW.new_self, hblk⟩
    · obtain ⟨Lk, hLk, hb⟩ := hR.live _ _ hk
      refine ⟨Lk, hle.β _ _ hLk, blkRel_frame hle hb (fun hvk => hmem _ ?_) ?_⟩
      · by_cases hv : L.virt = false
        · exact .inl fun e => e2 (hR.inj _ _ _ _ _ _ hk hg hLk hL hvk hv e)
        · exact .inr (by simpa using hv)
      · rintro ka va κ τ' es i left last rfl Li hLi
        have hi := hR.iters _ _ _ _ _ _ _ _ _ hk
        obtain ⟨Li', hLi', hbi⟩ := hR.live _ _ hi
        cases hLi.symm.trans hLi'
        refine hmem _ ?_
        by_cases hv : L.virt = false
        · refine .inl fun e => ?_
          have := hR.inj _ _ _ _ _ _ hi hg hLi hL hbi.1 hv e
          subst this
          rw [hg] at hi; cases hi
        · exact .inr (by simpa using hv)
  · intro k k' x y Lk Lk' h1 h2 k1 k2 v1 v2 e
    rcases get' k x h1 with ⟨e1, _⟩ | ⟨e1, f1, h1⟩ <;> rcases get' k' y h2 with ⟨e2, _⟩ | ⟨e2, f2, h2⟩
    · rw [e1, e2]
    · subst e1
      have : Lk = L' := (Option.some.inj (KW.new_self.symm.trans k1)).symm
      subst this
      rcases KW.new_of k2 with ⟨e, _⟩ | k2
      · exact absurd e e2
      · obtain ⟨hv, hb⟩ := hL' v1
        exact absurd (hR.inj _ _ _ _ _ _ h2 hg k2 hL v2 hv (by rw [← e, hb])) f2
    · subst e2
      have : Lk' = L' := (Option.some.inj (KW.new_self.symm.trans k2)).symm
      subst this
      rcases KW.new_of k1 with ⟨e, _⟩ | k1
      · exact absurd e e1
      · obtain ⟨hv, hb⟩ := hL' v2
        exact absurd (hR.inj _ _ _ _ _ _ h1 hg k1 hL v1 hv (by rw [e, hb])) f1
    · rcases KW.new_of k1 with ⟨e, _⟩ | k1
      · exact absurd e e1
      rcases KW.new_of k2 with ⟨e, _⟩ | k2
      · exact absurd e e2
      exact hR.inj _ _ _ _ _ _ h1 h2 k1 k2 v1 v2 e
  · intro k Lk hk
    rw [Heap.next_push, Heap.next_drop]
    rcases KW.new_of hk with ⟨e, _⟩ | hk
    · omega
    · have := hR.dom _ _ hk; omega
  · intro b C hs
    obtain ⟨T, fr, hb⟩ := hR.stab _ _ hs
    refine ⟨T, fr, (hmem _ ?_).trans hb⟩
    by_cases hv : L.virt = false
    · refine .inl ?_
      rintro rfl
      have := hR.sep _ _ _ hg hL hv
      rw [show K.S L.b = some C from hs] at this; cases this
    · exact .inr (by simpa using hv)
  · intro k x Lk hk hLk hv
    rcases get' k x hk with ⟨e1, _⟩ | ⟨e1, f1, hk⟩
    · subst e1
      have : Lk = L' := (Option.some.inj (KW.new_self.symm.trans hLk)).symm
      subst this
      obtain ⟨hv', hb⟩ := hL' hv
      rw [hb]; exact hR.sep _ _ _ hg hL hv'
    · rcases KW.new_of hLk with ⟨e, _⟩ | hLk
      · exact absurd e e1
      · exact hR.sep _ _ _ hk hLk hv
  · intro m ka va κ τ' es i left last hm
    rcases get' _ _ hm with ⟨_, e⟩ | ⟨e1, f1, hm⟩
    · exact absurd e.symm (hit _ _ _ _ _ _ _ _)
    · have hi := hR.iters _ _ _ _ _ _ _ _ _ hm
      obtain ⟨Li, hLi, _⟩ := hR.live _ _ hi
      refine keep' _ _ hi ?_ (hR.dom _ _ hLi)
      rintro rfl; rw [hg] at hi; cases hi
  · intro b _ hb
    refine hmem b ?_
    by_cases hv : L.virt = false
    · refine .inl ?_
      rintro rfl; exact hb ⟨id, _, L, hg, hL, hv, rfl⟩
    · exact .inr (by simpa using hv)
  · rintro b _ ⟨k, x, Lk, hk, hLk, hv, rfl⟩
    rcases get' k x hk with ⟨e1, _⟩ | ⟨e1, f1, hk⟩
    · subst e1
      have : Lk = L' := (Option.some.inj (KW.new_self.symm.trans hLk)).symm
      subst this
      obtain ⟨hv', hb⟩ := hL' hv
      exact ⟨id, _, L, hg, hL, hv', hb.symm⟩
    · rcases KW.new_of hLk with ⟨e, _⟩ | hLk
      · exact absurd e e1
      · exact ⟨k, x, Lk, hk, hLk, hv, rfl⟩
  · simp

/-- The value of one cell. -/
def oneV : Value → Bool
  | .agg _ => false
  | .tuple _ => false
  | _ => true

theorem oneV_cell {v : Value} (h : oneV v = true) : v.oneCell' = true := by cases v <;> first | rfl | cases h

theorem rel_one {a : AV} {v : Value} (h : rel K a v) (hs : solid a = true) : oneV v = true := by
  cases a
  case agg => cases hs
  case undef => cases hs
  case tup => cases hs
  case barr => exact h.elim
  case i => cases (h : v = _); rfl
  case u => cases (h : v = _); rfl
  case bool => cases (h : v = _); rfl
  case str => cases (h : v = _); rfl
  case nilptr => cases (h : v = _); rfl
  case ptr => obtain ⟨L, _, _, rfl⟩ := h; rfl
  case rptr => obtain ⟨L, _, _, rfl, _⟩ := h; rfl
  case iptr => obtain ⟨_, _, _, _, _, _, _, _, rfl⟩ := h; rfl
  case nilsl => cases (h : v = _); rfl
  case slr => obtain ⟨L, a, c, _, rfl, _⟩ := h; rfl
  case slc => obtain ⟨L, c, _, _, rfl, _⟩ := h; rfl
  case imm => obtain ⟨c, ⟨a, rfl, _⟩, _⟩ := h; rfl
  case map => obtain ⟨L, _, rfl⟩ := h; rfl
  case nilmap => cases (h : v = _); rfl
  case fn => obtain ⟨a, b, rfl, _⟩ := h; rfl
  case nilfn => cases (h : v = _); rfl
  case yld => obtain ⟨L, _, rfl⟩ := h; rfl

theorem relC_one {a : AV} {us : List Value} (h : relC (rel K a) a us) : ∀ v ∈ us, oneV v = true := by
  cases a
  case barr n xs =>
    obtain ⟨_, rfl⟩ := h
    intro v hv
    obtain ⟨b, _, rfl⟩ := List.mem_map.1 hv
    rfl
  case agg => exact h.elim
  case tup => exact h.elim
  case undef => exact h.elim
  all_goals
    obtain ⟨v, rfl, hv⟩ := h
    intro u hu
    rw [List.mem_singleton] at hu
    subst hu
    exact rel_one hv rfl

theorem relCs_one : ∀ {cs : List AV} {vs : List Value}, relCs K cs vs → ∀ v ∈ vs, oneV v = true
  | [], _, h, v, hv => by cases (h : _ = []); simp at hv
  | c :: cs, _, ⟨us, ws, rfl, hc, hr⟩, v, hv => by
    rcases List.mem_append.1 hv with hv | hv
    · exact relC_one hc v hv
    · exact relCs_one hr v hv

theorem relRows_one {τ : Ty} : ∀ {xs : List τ.den} {vs : List Value}, relRows (relT K.S τ) xs vs → ∀ v ∈ vs, oneV v = true
  | [], _, h, v, hv => by cases (h : _ = []); simp at hv
  | x :: xs, _, ⟨us, ws, rfl, hc, hr⟩, v, hv => by
    rcases List.mem_append.1 hv with hv | hv
    · exact relCs_one (relCs_embed.2 hc) v hv
    · exact relRows_one hr v hv

theorem frozen_not {b o : Nat} {C : Array Value} {T : TypeId} {fr : Nat × Nat} (hb : w.heap[b]? = some (.cells C T fr)) (hu : unfrz fr C.size) (ho : o < C.size) : w.frozen? ⟨b, o, none⟩ = false := by
  simp only [World.frozen?, hb]
  rcases hu with hu | hu
  · simp only [Bool.and_eq_false_iff, decide_eq_false_iff_not]
    omega
  · simp only [Bool.and_eq_false_iff, decide_eq_false_iff_not]
    omega

theorem putB_same {b : Nat} {o : Obj} (h : w.heap[b]? = some o) : putB w b o = w := by
  have : w.heap.setIfInBounds b o = w.heap := by
    apply Array.ext_getElem?
    intro j
    rw [Array.getElem?_setIfInBounds]
    by_cases hj : b = j
    · subst hj
      rw [if_pos rfl, h, if_pos (Array.getElem?_eq_some_iff.1 h).1]
    · rw [if_neg hj]
  simp [putB, this]

theorem putB_twice {b : Nat} {o o' : Obj} : putB (putB w b o) b o' = putB w b o' := by simp [putB]

theorem setCell_put {b o : Nat} {v : Value} {C : Array Value} {T : TypeId} {fr : Nat × Nat} (hb : w.heap[b]? = some (.cells C T fr)) : w.setCell ⟨b, o, none⟩ v = putB w b (.cells (C.setIfInBounds o v) T fr) := by
  have hbs : b < w.heap.size := (Array.getElem?_eq_some_iff.1 hb).1
  unfold World.setCell putB
  congr 1
  apply Array.ext_getElem?
  intro j
  rw [Array.getElem?_modify, Array.getElem?_setIfInBounds]
  by_cases hj : b = j
  · subst hj
    rw [if_pos rfl, if_pos rfl, if_pos hbs, hb]
    rfl
  · rw [if_neg hj, if_neg hj]

/-- Values stored side by side. -/
theorem stores_ok {b : Nat} {T : TypeId} {fr : Nat × Nat} : ∀ (vs us pre post : List Value) (i o : Nat) (C : Array Value) (w : World), w.heap[b]? = some (.cells C T fr) → C.toList = pre ++ (us ++ post) → us.length = vs.length → pre.length = o + i → unfrz fr C.size → (∀ v ∈ vs, oneV v = true) →
    ∃ C', (storeCells ⟨b, o, none⟩ vs i).run P w = .ok () (putB w b (.cells C' T fr)) ∧ C'.toList = pre ++ (vs ++ post)
  | [], us, pre, post, i, o, C, w, hb, e, hl, hp, hu, h1 => by
    cases us with
    | nil => exact ⟨C, by simp [storeCells, putB_same hb], e⟩
    | cons u us => simp at hl
  | v :: vs, us, pre, post, i, o, C, w, hb, e, hl, hp, hu, h1 => by
    cases us with
    | nil => simp at hl
    | cons u us =>
      have hlt : o + i < C.size := by
        have := congrArg List.length e
        simp at this; omega
      have e1 : (C.setIfInBounds (o + i) v).toList = (pre ++ [v]) ++ (us ++ post) := by
        rw [Array.toList_setIfInBounds, e, ← hp]; simp
      have hbs : b < w.heap.size := (Array.getElem?_eq_some_iff.1 hb).1
      obtain ⟨C', hrun, hC'⟩ := stores_ok vs us (pre ++ [v]) post (i + 1) o (C.setIfInBounds (o + i) v) (putB w b (.cells (C.setIfInBounds (o + i) v) T fr)) (putB_self hbs) e1 (by simpa using hl) (by simp; omega) (by simpa using hu) (fun x hx => h1 x (by simp [hx]))
      refine ⟨C', ?_, by simpa using hC'⟩
      have hcell : w.cell? ⟨b, o + i, none⟩ = some C[o + i] := by rw [cell_of hb]; simp [hlt]
      have hfr := frozen_not hb hu hlt
      have hst : (store (⟨b, o + i, none⟩ : Addr) v).run P w = .ok () (putB w b (.cells (C.setIfInBounds (o + i) v) T fr)) := by
        rw [run_store P w ⟨b, o + i, none⟩ v .plain (oneV_cell (h1 v (by simp)))]
        simp [hcell, hfr, setCell_put hb]
      rw [storeCells, add_none, Sem.run_bind, hst, Result.andThen_ok, hrun, putB_twice]

end Go.Tw

/- Plain data made of what memory holds: slices that nobody else has are plain lists from then on. -/
namespace Go.Tw
open Go

variable {P : Program} {K K' : KW} {h : Heap} {w w' : World}

theorem cellsAt_prefix {L : Loc} {us ws : List Value} (h : cellsAt w L (us ++ ws)) : cellsAt w L us := by
  obtain ⟨C, T, fr, pre, post, hb, e, r⟩ := h
  exact ⟨C, T, fr, pre, ws ++ post, hb, by rw [e]; simp, r⟩

theorem cellsAt_shift {L : Loc} {us ws : List Value} (h : cellsAt w L (us ++ ws)) (L' : Loc) (hb : L'.b = L.b) (ho : L'.base = L.base + us.length) (hs : L'.size = L.size) : cellsAt w L' ws := by
  obtain ⟨C, T, fr, pre, post, hc, e, hl, hz, hu⟩ := h
  exact ⟨C, T, fr, pre ++ us, post, by rw [hb]; exact hc, by rw [e]; simp, by rw [ho, ← hl]; simp, by rw [hs]; exact hz, hu⟩

theorem cellsAt_loc {L L' : Loc} {ms : List Value} (h : cellsAt w L ms) (hb : L'.b = L.b) (ho : L'.base = L.base) (hs : L'.size = L.size) : cellsAt w L' ms := by
  obtain ⟨C, T, fr, pre, post, hc, e, hl, hz, hu⟩ := h
  exact ⟨C, T, fr, pre, post, by rw [hb]; exact hc, e, by rw [ho]; exact hl, by rw [hs]; exact hz, hu⟩

theorem write_ok {L : Loc} {mid vs : List Value} {k : Nat} (h : cellsAt w L mid) (hk : k ≤ mid.length) (hs : L.base + k + vs.length ≤ L.size) (h1 : ∀ v ∈ vs, oneV v = true) :
    ∃ o, (storeCells ⟨L.b, L.base + k, none⟩ vs 0).run P w = .ok () (putB w L.b o) ∧ cellsAt (putB w L.b o) L (mid.take k ++ (vs ++ mid.drop (k + vs.length))) := by
  obtain ⟨C, T, fr, pre, post, hb, e, hl, hz, hu⟩ := h
  have hlen := congrArg List.length e
  simp only [Array.length_toList, List.length_append] at hlen
  have hbs : L.b < w.heap.size := (Array.getElem?_eq_some_iff.1 hb).1
  let rest := mid.drop k ++ post
  have hrest : rest = rest.take vs.length ++ rest.drop vs.length := by rw [List.take_append_drop]
  have hrl : vs.length ≤ rest.length := by simp [rest]; omega
  have e1 : C.toList = (pre ++ mid.take k) ++ (rest.take vs.length ++ rest.drop vs.length) := by
    rw [← hrest, e]
    show pre ++ (mid ++ post) = (pre ++ mid.take k) ++ (mid.drop k ++ post)
    rw [List.append_assoc, ← List.append_assoc (mid.take k), List.take_append_drop]
  obtain ⟨C', hrun, hC'⟩ := stores_ok (P := P) vs _ _ _ 0 (L.base + k) C w hb e1 (by simp; omega) (by simp; omega) hu h1
  have hsz : C'.size = C.size := by
    have a := congrArg List.length hC'
    have b := congrArg List.length e1
    simp only [Array.length_toList, List.length_append] at a b
    have : (rest.take vs.length).length = vs.length := by simp; omega
    omega
  refine ⟨_, hrun, C', T, fr, pre, rest.drop (vs.length + (mid.drop (k + vs.length)).length), putB_self hbs, ?_, hl, by rw [hsz]; exact hz, by rw [hsz]; exact hu⟩
  rw [hC']
  simp only [List.append_assoc]
  congr 3
  show (mid.drop k ++ post).drop vs.length = mid.drop (k + vs.length) ++ (mid.drop k ++ post).drop (vs.length + (mid.drop (k + vs.length)).length)
  rw [List.drop_append, List.drop_drop, List.length_drop, List.drop_append, List.drop_drop, List.length_drop, List.length_drop]
  rcases Nat.le_total (k + vs.length) mid.length with hle | hle
  · have a1 : vs.length - (mid.length - k) = 0 := by omega
    have a2 : mid.drop (k + (vs.length + (mid.length - (k + vs.length)))) = [] := List.drop_eq_nil_iff.2 (by omega)
    have a3 : vs.length + (mid.length - (k + vs.length)) - (mid.length - k) = 0 := by omega
    rw [a1, a2, a3]; simp
  · have a1 : mid.drop (k + vs.length) = [] := List.drop_eq_nil_iff.2 hle
    have a2 : mid.drop (k + (vs.length + (mid.length - (k + vs.length)))) = [] := List.drop_eq_nil_iff.2 (by omega)
    have a3 : mid.length - (k + vs.length) = 0 := by omega
    rw [a1, a2, a3]; simp

/-- What a step makes of memory that says nothing of its own. -/
def Moves (K : KW) (h : Heap) (w : World) (Q : KW → Heap → Prop) : Prop := ∃ K' h', R K' h' w ∧ Ext K h w K' h' w ∧ Q K' h'

theorem free_block (hR : R K h w) {id : Nat} {τ : Ty} {xs : List τ.den} {L : Loc} (hg : h.get id = some (.rows τ xs)) (hL : K.β id = some L) (hv : L.virt = false) : ¬ Blocks K (h.drop id) L.b := by
  rintro ⟨k, x, Lk, hk, hLk, hvk, e⟩
  rw [Heap.get_drop] at hk
  split at hk
  · cases hk
  · rename_i hne; exact hne (hR.inj _ _ _ _ _ _ hk hg hLk hL hvk hv e)

/-- A slice that nobody else has becomes a plain list. -/
theorem freeze_slice (hR : R K h w) {τ : Ty} {id sz off len : Nat} {wh : Bool} {cap : Nat} {ex nn : Bool} {v : Value} (hx : rel K (.slr id sz off len wh cap ex nn) v) {xs : List τ.den}
    (hsz : sz = τ.cells) (hg : h.get id = some (.rows τ xs)) :
    ∃ K', R K' (h.drop id) w ∧ Ext K h w K' (h.drop id) w ∧ ∃ c, relSl K'.S (relT K'.S τ) ((xs.drop off).take len) c v := by
  obtain ⟨L, a, c, hL, rfl, hLz, hlen, hc, hcap, hex, hwh, hr⟩ := hx
  obtain ⟨L', hL', hz, hn, hb⟩ := hR.live _ _ hg
  cases hL.symm.trans hL'
  obtain ⟨hR1, hE1⟩ := hR.drop hg
  have hl : ((xs.drop off).take len).length = len := by simp; omega
  rcases hr with ⟨rfl, _, rfl⟩ | ⟨ad, rfl, hsp, hr⟩
  · refine ⟨K, hR1, hE1, 0, none, by rw [hl], by omega, .inl ⟨rfl, rfl⟩⟩
  · obtain ⟨b, o, s⟩ := ad
    cases (hsp : s = none)
    rcases hr with rfl | ⟨hv, e, hfit⟩
    · exact ⟨K, hR1, hE1, 0, _, by rw [hl], by omega, .inr ⟨b, o, rfl, .inl rfl⟩⟩
    · cases e
      rcases hb with ⟨hv', _⟩ | ⟨_, mid, hcell, hrows⟩
      · rw [hv] at hv'; cases hv'
      · have hcell' := hcell
        obtain ⟨C, T, fr, pre, post, hbC, eC, hpre, hsize, hu⟩ := hcell
        have hnone := hR.sep _ _ _ hg hL hv
        obtain ⟨hR2, hE2⟩ := hR1.freeze hbC (free_block hR hg hL hv) (fun C' hs => by rw [hnone] at hs; cases hs)
        refine ⟨_, hR2, hE1.freeze hE2 (.inr ⟨id, _, L, hg, hL, hv, rfl⟩), c, some ⟨L.b, L.base + off * sz, none⟩, by rw [hl], by omega, .inr ⟨L.b, L.base + off * sz, rfl, .inr ?_⟩⟩
        obtain ⟨us, ws, e1, hl1, hr1, hr2⟩ := relRows_cut hrows off
        obtain ⟨us2, ws2, e2, hl2, hr3, _⟩ := relRows_cut hr2 len
        refine ⟨C, pre ++ us, us2, ws2 ++ post, if_pos rfl, by rw [eC, e1, e2]; simp, ?_, relRows_imp (relT_mono hE2.S τ) _ _ hr3⟩
        rw [List.length_append, hpre, hl1, List.length_take, Nat.min_eq_left (by omega), hsz]

theorem reify_sound : ∀ {τ : Ty} {cs : List AV} {vs : List Value} {K : KW} {h : Heap} {w : World} {Q : τ.den → List AV → Heap → Prop}, R K h w → relCs K cs vs → reifyK Alg.prop τ cs h Q →
    Moves K h w fun K' h' => ∃ x rest us ws, vs = us ++ ws ∧ relT K'.S τ x us ∧ relCs K' rest ws ∧ Q x rest h'
  | .i k, cs, vs, K, h, w, Q, hR, hr, hk => by
    obtain ⟨x, rest, us, ws, r⟩ := reify_flat (κ := .i k) trivial hr hk
    exact ⟨K, h, hR, .refl _ _ _, x, rest, us, ws, r⟩
  | .u k, cs, vs, K, h, w, Q, hR, hr, hk => by
    obtain ⟨x, rest, us, ws, r⟩ := reify_flat (κ := .u k) trivial hr hk
    exact ⟨K, h, hR, .refl _ _ _, x, rest, us, ws, r⟩
  | .bool, cs, vs, K, h, w, Q, hR, hr, hk => by
    obtain ⟨x, rest, us, ws, r⟩ := reify_flat (κ := .bool) trivial hr hk
    exact ⟨K, h, hR, .refl _ _ _, x, rest, us, ws, r⟩
  | .str, cs, vs, K, h, w, Q, hR, hr, hk => by
    obtain ⟨x, rest, us, ws, r⟩ := reify_flat (κ := .str) trivial hr hk
    exact ⟨K, h, hR, .refl _ _ _, x, rest, us, ws, r⟩
  | .pair a b, cs, vs, K, h, w, Q, hR, hr, hk => by
    simp only [reifyK] at hk
    obtain ⟨K1, h1, hR1, hE1, x, rest, us, ws, rfl, hx, hr1, hk⟩ := reify_sound hR hr hk
    obtain ⟨K2, h2, hR2, hE2, y, rest2, us2, ws2, rfl, hy, hr2, hk⟩ := reify_sound hR1 hr1 hk
    exact ⟨K2, h2, hR2, hE1.trans hE2, (x, y), rest2, us ++ us2, ws2, by simp, ⟨us, us2, rfl, relT_mono hE2.le.S a _ _ hx, hy⟩, hr2, hk⟩
  | .barr n, cs, vs, K, h, w, Q, hR, hr, hk => by
    simp only [reifyK] at hk
    split at hk
    · obtain ⟨us, ws, e, ⟨hl, hv⟩, hr⟩ := hr
      split at hk
      · rename_i hj
        subst hj
        exact ⟨K, h, hR, .refl _ _ _, _, _, _, ws, e, ⟨hl, hv⟩, hr, hk⟩
      · exact hk.elim
    · exact hk.elim
  | .sl a, cs, vs, K, h, w, Q, hR, hr, hk => by
    simp only [reifyK] at hk
    split at hk
    · obtain ⟨us, ws, e, ⟨v, rfl, hv⟩, hr⟩ := hr
      cases (hv : v = _)
      exact ⟨K, h, hR, .refl _ _ _, _, _, _, ws, e, ⟨_, 0, rfl, none, rfl, Nat.le_refl _, .inl ⟨rfl, rfl⟩⟩, hr, hk⟩
    · rename_i σ xs ex nn rest
      obtain ⟨us, ws, e, ⟨v, rfl, hv⟩, hr⟩ := hr
      obtain ⟨eσ, hk⟩ := castD_prop hk
      cases sl_inj eσ
      obtain ⟨c, hsl, _⟩ := hv
      exact ⟨K, h, hR, .refl _ _ _, xs, _, _, ws, e, ⟨_, c, rfl, hsl⟩, hr, hk⟩
    · rename_i id sz off len wh cap ex nn rest
      obtain ⟨us, ws, e, ⟨v, rfl, hv⟩, hr⟩ := hr
      simp only [rowsOf] at hk
      split at hk
      · rename_i hsz
        split at hk
        · rename_i σ xs hg
          obtain ⟨eσ, hk⟩ := castD_prop hk
          cases sl_inj eσ
          obtain ⟨K1, hR1, hE1, c, hsl⟩ := freeze_slice hR hv hsz hg
          refine ⟨K1, _, hR1, hE1, (xs.drop off).take len, rest, [v], ws, e, ⟨v, c, rfl, hsl⟩, relCs_mono hE1.le _ _ hr, ?_⟩
          obtain ⟨L, a', c', hL, _, hLz, hlen, _, _, _, hwh, _⟩ := hv
          obtain ⟨L', hL', hz, hn, _⟩ := hR.live _ _ hg
          cases hL.symm.trans hL'
          cases wh with
          | true =>
            obtain ⟨rfl, rfl⟩ := hwh rfl
            rw [List.drop_zero, ← hn, List.take_length]
            have hk' : (h.dropK id fun h => Q xs rest h) := hk
            rw [Heap.dropK_eq] at hk'
            exact hk'
          | false =>
            have hk' : (h.dropK id fun h => Q ((xs.drop off).take len) rest h) := hk
            rw [Heap.dropK_eq] at hk'
            exact hk'
        · exact hk.elim
      · exact hk.elim
    · exact hk.elim

theorem reify1_sound {τ : Ty} {a : AV} {v : Value} {Q : τ.den → Heap → Prop} (hR : R K h w) (hv : rel K a v) (hk : reify1K Alg.prop τ a h Q) : Moves K h w fun K' h' => ∃ x, relT K'.S τ x v.cells.toList ∧ isAggV v = aggV a ∧ Q x h' := by
  unfold reify1K at hk
  obtain ⟨hc, hne⟩ := reify_cells hv hk
  obtain ⟨K1, h1, hR1, hE1, x, rest, us, ws, e, hx, hr, hk⟩ := reify_sound hR hc hk
  split at hk
  · cases (hr : ws = [])
    rw [List.append_nil] at e
    subst e
    exact ⟨K1, h1, hR1, hE1, x, hx, agg_rel hv hne, hk⟩
  · exact hk.elim

end Go.Tw

/- New memory, and stores. -/
namespace Go.Tw
open Go

variable {P : Program} {K K' : KW} {h : Heap} {w w' : World}

/-- What an operation gives that does something. -/
def Acts (P : Program) (K : KW) (h : Heap) (w : World) (s : Sem Value) (Q : AV → Heap → Prop) : Prop :=
  ∃ v K' h' w' av, s.run P w = .ok v w' ∧ rel K' av v ∧ R K' h' w' ∧ Ext K h w K' h' w' ∧ Q av h'

def ActsU (P : Program) (K : KW) (h : Heap) (w : World) (s : Sem Unit) (Q : Heap → Prop) : Prop :=
  ∃ K' h' w', s.run P w = .ok () w' ∧ R K' h' w' ∧ Ext K h w K' h' w' ∧ Q h'

/-- The place of a block of cells. -/
def cellLoc (w : World) (n : Nat) : Loc := ⟨w.heap.size, 0, n, 0, 0, false⟩

theorem R.pushCells (hR : R K h w) {cs : List AV} {C : Array Value} (hr : relCs K cs C.toList) (T : TypeId) :
    ∃ K', R K' (h.push (.cells cs)) { w with heap := w.heap.push (.cells C T) } ∧ Ext K h w K' (h.push (.cells cs)) { w with heap := w.heap.push (.cells C T) } ∧ K'.β h.next = some (cellLoc w C.size) := by
  have hle : K.le (K.new h.next (cellLoc w C.size)) := KW.le_new hR.fresh
  obtain ⟨h1, h2⟩ := hR.push (o := .cells C T) (L := cellLoc w C.size) (blk := .cells cs) rfl rfl
    ⟨rfl, C.toList, ⟨C, T, (0, 0), [], [], by simp [cellLoc], by simp, rfl, rfl, .inl rfl⟩, relCs_mono hle _ _ hr⟩ (by simp)
  exact ⟨_, h1, h2, KW.new_self⟩

theorem new_cells {cs : List AV} {C : Array Value} {T : TypeId} {Q : AV → Heap → Prop} (hR : R K h w) (hr : relCs K cs C.toList) (hk : h.newK (.cells cs) fun id h => Q (.ptr id 0) h) :
    Acts P K h w (do pure (.pointer (some (← newRow T C)))) Q := by
  rw [Heap.newK_eq] at hk
  obtain ⟨K', h1, h2, h3⟩ := hR.pushCells hr T
  exact ⟨.pointer (some ⟨w.heap.size, 0, none⟩), K', _, _, .ptr h.next 0, by simp [newRow], ⟨_, h3, rfl, rfl⟩, h1, h2, hk⟩

theorem alloc_sound {t : TypeId} {cs : List AV} {Q : AV → Heap → Prop} (hR : R K h w) (hz : zeroT P t = some cs) (hk : h.newK (.cells cs) fun id h => Q (.ptr id 0) h) :
    Acts P K h w (Instr.alloc t true (.tuple #[])) Q := by
  obtain ⟨z, n, h1, h2, _⟩ := zeroT_sound (K := K) hz
  obtain ⟨v, K', h', w', av, r, q⟩ := new_cells (P := P) (T := t) hR h2 hk
  refine ⟨v, K', h', w', av, ?_, q⟩
  simpa [Instr.alloc, h1, newVar] using r

theorem box_sound {t : TypeId} {a : AV} {v : Value} {Q : AV → Heap → Prop} (hR : R K h w) (hv : rel K a v) (hw : 0 < widthC a.cellsOf) (hk : h.newK (.cells a.cellsOf) fun id h => Q (.ptr id 0) h) :
    Acts P K h w (Instr.box t v) Q := by
  obtain ⟨v, K', h', w', av, r, q⟩ := new_cells (P := P) (T := t) hR (cellsOf_rel hv hw) hk
  exact ⟨v, K', h', w', av, by simpa [Instr.box, newVar] using r, q⟩

/-- The place of a block of rows. -/
def rowLoc (w : World) (n sz size : Nat) : Loc := ⟨w.heap.size, 0, size, n, sz, false⟩

theorem R.pushRows (hR : R K h w) {τ : Ty} {xs : List τ.den} {C : Array Value} {mid post : List Value} (hr : relRows (relT K.S τ) xs mid) (e : C.toList = mid ++ post) (T : TypeId) :
    ∃ K', R K' (h.push (.rows τ xs)) { w with heap := w.heap.push (.cells C T) } ∧ Ext K h w K' (h.push (.rows τ xs)) { w with heap := w.heap.push (.cells C T) } ∧ K'.β h.next = some (rowLoc w xs.length τ.cells C.size) := by
  have hle : K.le (K.new h.next (rowLoc w xs.length τ.cells C.size)) := KW.le_new hR.fresh
  obtain ⟨h1, h2⟩ := hR.push (o := .cells C T) (L := rowLoc w xs.length τ.cells C.size) (blk := .rows τ xs) rfl rfl
    ⟨rfl, rfl, .inr ⟨rfl, mid, ⟨C, T, (0, 0), [], post, by simp [rowLoc], by simpa using e, rfl, rfl, .inl rfl⟩, relRows_imp (relT_mono hle.S τ) _ _ hr⟩⟩ (by simp)
  exact ⟨_, h1, h2, KW.new_self⟩

/-- A new block's slice. -/
theorem rowSlice {τ : Ty} {n sz size id : Nat} {c cap : Nat} {ex nn : Bool} (hL : K'.β id = some (rowLoc w n sz size)) (hc : n ≤ c) (hcap : cap ≤ c) (hex : ex = true → c = cap) (hs : c * sz ≤ size) (hτ : sz = τ.cells) :
    rel K' (.slr id τ.cells 0 n true cap ex nn) (.slice (some ⟨w.heap.size, 0, none⟩) n c) :=
  ⟨_, _, c, hL, rfl, hτ, by simp [rowLoc], hc, hcap, hex, fun _ => ⟨rfl, rfl⟩, .inr ⟨_, rfl, rfl, .inr ⟨rfl, by simp [rowLoc], by rw [← hτ]; simpa [rowLoc] using hs⟩⟩⟩

theorem new_rows {τ : Ty} {xs : List τ.den} {C : Array Value} {mid post : List Value} {T : TypeId} {c cap : Nat} {ex nn : Bool} {Q : AV → Heap → Prop} (hR : R K h w) (hr : relRows (relT K.S τ) xs mid) (e : C.toList = mid ++ post)
    (hc : xs.length ≤ c) (hcap : cap ≤ c) (hex : ex = true → c = cap) (hs : c * τ.cells ≤ C.size) (hk : h.newK (.rows τ xs) fun id h => Q (.slr id τ.cells 0 xs.length true cap ex nn) h) :
    Acts P K h w (do pure (.slice (some (← newRow T C)) xs.length c)) Q := by
  rw [Heap.newK_eq] at hk
  obtain ⟨K', h1, h2, h3⟩ := hR.pushRows hr e T
  exact ⟨_, K', _, _, _, by simp [newRow], rowSlice h3 hc hcap hex hs rfl, h1, h2, hk⟩

theorem mul_row {r n m s : Nat} (h : r < n) (hs : s ≤ m) : r * m + s ≤ n * m := by
  have : (r + 1) * m ≤ n * m := Nat.mul_le_mul_right m h
  rw [Nat.add_mul] at this; omega

/-- One row written. -/
theorem relRows_set {α : Type} {f : α → List Value → Prop} {n : Nat} (hn : ∀ x us, f x us → us.length = n) {y : α} {vs : List Value} (hy : f y vs) : ∀ {xs : List α} {ms : List Value} {i : Nat} (_ : i < xs.length), relRows f xs ms →
    relRows f (xs.set i y) (ms.take (i * n) ++ (vs ++ ms.drop (i * n + n)))
  | x :: xs, ms, 0, hi, ⟨us, ws, e, h1, h2⟩ => by
    refine ⟨vs, ws, ?_, hy, h2⟩
    have := hn _ _ h1
    subst e
    simp [← this]
  | x :: xs, ms, i + 1, hi, ⟨us, ws, e, h1, h2⟩ => by
    have ih := relRows_set hn hy (i := i) (by simpa using hi) h2
    refine ⟨us, _, ?_, h1, ih⟩
    have := hn _ _ h1
    subst e
    have e1 : (i + 1) * n = us.length + i * n := by rw [Nat.add_mul]; omega
    rw [e1, List.take_append, List.drop_append]
    have a1 : us.take (us.length + i * n) = us := List.take_of_length_le (by omega)
    have a2 : us.drop (us.length + i * n + n) = [] := List.drop_eq_nil_iff.2 (by omega)
    rw [a1, a2, List.nil_append, List.append_assoc]
    congr 3
    · congr 1; omega
    · congr 2; omega

theorem setK_prop {α : Type} : ∀ (l : List α) (n : Nat) (v : α) (Q : List α → Prop), setK l n v Q = Q (l.set n v)
  | [], n, v, Q => rfl
  | x :: xs, 0, v, Q => rfl
  | x :: xs, n + 1, v, Q => by
    show setK xs n v (fun ys => Q (x :: ys)) = _
    rw [setK_prop xs n v]; rfl

theorem splice (pre p2 us2 ws2 post vs : List Value) (n : Nat) (hn : p2.length + us2.length + ws2.length = n) (hv : us2.length = vs.length) :
    (pre ++ ((p2 ++ (us2 ++ ws2)) ++ post)).take (pre.length + p2.length) ++ (vs ++ (pre ++ ((p2 ++ (us2 ++ ws2)) ++ post)).drop (pre.length + p2.length + vs.length)) =
      (pre ++ ((p2 ++ (us2 ++ ws2)) ++ post)).take pre.length ++ ((p2 ++ (vs ++ ws2)) ++ (pre ++ ((p2 ++ (us2 ++ ws2)) ++ post)).drop (pre.length + n)) := by
  have e1 : pre ++ ((p2 ++ (us2 ++ ws2)) ++ post) = (pre ++ p2) ++ (us2 ++ (ws2 ++ post)) := by simp
  have e2 : pre ++ ((p2 ++ (us2 ++ ws2)) ++ post) = (pre ++ p2 ++ us2) ++ (ws2 ++ post) := by simp
  have e3 : pre ++ ((p2 ++ (us2 ++ ws2)) ++ post) = (pre ++ p2 ++ us2 ++ ws2) ++ post := by simp
  have t1 : (pre ++ ((p2 ++ (us2 ++ ws2)) ++ post)).take (pre.length + p2.length) = pre ++ p2 := by
    rw [e1]; exact List.take_left' (by simp)
  have t2 : (pre ++ ((p2 ++ (us2 ++ ws2)) ++ post)).drop (pre.length + p2.length + vs.length) = ws2 ++ post := by
    rw [e2]; exact List.drop_left' (by simp; omega)
  have t3 : (pre ++ ((p2 ++ (us2 ++ ws2)) ++ post)).drop (pre.length + n) = post := by
    rw [e3]; exact List.drop_left' (by simp; omega)
  rw [t1, t2, t3, List.take_left]
  simp

theorem store_sound {cl : Bool} {t : TypeId} {a v : AV} {va vv : Value} {Q : Heap → Prop} (hR : R K h w) (ha : rel K a va) (hv : rel K v vv) (hk : storeK Alg.prop P cl h t a v Q) : ActsU P K h w (Instr.storeAt t va vv) Q := by
  unfold storeK at hk
  split at hk
  · exact hk.elim
  rename_i sz hsz
  split at hk
  rotate_left
  · exact hk.elim
  rename_i hw
  have hcells := cellsOf_rel hv (by omega)
  have hlen : vv.cells.size = sz := by
    have := relCs_width hcells
    rw [Array.length_toList] at this; omega
  have go : ∀ {b o : Nat} {w' : World}, (storeCells ⟨b, o, none⟩ vv.cells.toList 0).run P w = .ok () w' → (Instr.storeAt t (.pointer (some ⟨b, o, none⟩)) vv).run P w = .ok () w' := by
    intro b o w' h
    simp only [Instr.storeAt, Instr.sureAddr, storeVar, Sem.run_bind, Sem.run_pure, Result.andThen_ok, run_sizeT hsz, hlen, ne_eq, not_true_eq_false, if_false]
    exact h
  split at hk
  · rename_i id off
    obtain ⟨L, hL, hvirt, rfl⟩ := ha
    split at hk
    · rename_i cs hg
      split at hk
      · rename_i cs' hset
        rw [fL_eq, Heap.setK_eq] at hk
        obtain ⟨L', hL', hb⟩ := hR.live _ _ hg
        cases hL.symm.trans hL'
        obtain ⟨_, mid, hc, hr⟩ := hb
        obtain ⟨pre, us, ws, e1, hl1, hl2, hr'⟩ := setC_rel hset hr hcells
        have hbound : L.base + off + vv.cells.toList.length ≤ L.size := by
          obtain ⟨C, T, fr, p, q, _, eC, hp, hz, _⟩ := hc
          have := congrArg List.length eC
          rw [e1] at this
          simp only [Array.length_toList, List.length_append] at this
          omega
        obtain ⟨o, hrun, hc'⟩ := write_ok (P := P) (k := off) hc (by rw [e1]; simp; omega) hbound (relCs_one hcells)
        have emid : mid.take off ++ (vv.cells.toList ++ mid.drop (off + vv.cells.toList.length)) = pre ++ (vv.cells.toList ++ ws) := by
          rw [e1, ← hl1, List.take_left, ← List.drop_drop, List.drop_left, ← hl2, List.drop_left]
        rw [emid] at hc'
        obtain ⟨h1, h2⟩ := hR.setB (blk := .cells cs') hg hL hvirt ⟨hvirt, _, hc', hr'⟩ (by simp) (by simp)
        exact ⟨K, _, _, go hrun, h1, h2, hk⟩
      · exact hk.elim
    · exact hk.elim
  · rename_i id row sub
    obtain ⟨L, hL, hvirt, rfl, hrow⟩ := ha
    split at hk
    · rename_i τ xs hg
      split at hk
      · rename_i cs' hset
        obtain ⟨L', hL', hszL, hn, hb⟩ := hR.live _ _ hg
        cases hL.symm.trans hL'
        rw [getD_get (hn ▸ hrow)] at hset
        rcases hb with ⟨hv', _⟩ | ⟨_, mid, hc, hr⟩
        · rw [hvirt] at hv'; cases hv'
        obtain ⟨pre, us, post, e1, hl1, hl2, hf⟩ := relRows_get (fun x us h => relT_len h) (hn ▸ hrow) hr
        obtain ⟨p2, us2, ws2, e2, hl3, hl4, hr'⟩ := setC_rel hset (relCs_embed.2 hf) hcells
        obtain ⟨K1, h1, hR1, hE1, x, rest, us3, ws3, e3, hx, hrest, hk⟩ := reify_sound hR hr' hk
        split at hk
        rotate_left
        · exact hk.elim
        cases (hrest : ws3 = [])
        rw [List.append_nil] at e3
        subst e3
        split at hk
        · rename_i σ ys hg1
          obtain ⟨e4, hk⟩ := castD_prop hk
          obtain ⟨e5, hk⟩ := castD_prop hk
          cases e4
          have hL1 := hE1.le.β _ _ hL
          obtain ⟨L1, hL1', hszL1, hn1, hb1⟩ := hR1.live _ _ hg1
          cases hL1.symm.trans hL1'
          rcases hb1 with ⟨hv', _⟩ | ⟨_, mid1, hc1, hrr1⟩
          · rw [hvirt] at hv'; cases hv'
          have hrow1 : row < ys.length := hn1 ▸ hrow
          have hk' : Q (h1.set id (.rows τ (ys.set row x))) := by
            cases cl
            · have hk' : (h1.setK id (.rows τ (ys.set row x)) Q) := hk
              rwa [Heap.setK_eq] at hk'
            · have hk' : setK ys row x (fun zs => h1.setK id (.rows τ zs) Q) := hk
              rwa [setK_prop, Heap.setK_eq] at hk'
          have hmlen : mid1.length = ys.length * τ.cells := relRows_len hrr1
          have hmlen0 : mid.length = ys.length * τ.cells := by rw [relRows_len hr, hn, ← hn1]
          have hsub : sub + vv.cells.toList.length ≤ τ.cells := by
            have h3 : us.length = τ.cells := relT_len hf
            have := congrArg List.length e2
            simp only [List.length_append] at this
            omega
          -- the same memory, seen once more
          obtain ⟨C, T, fr, p, q, hC1, eC, hp, hz, hu⟩ := hc
          obtain ⟨C1, T1, fr1, p1, q1, hC2, eC1, hp1, hz1, hu1⟩ := hc1
          have : C1 = C := by rw [hC1] at hC2; cases hC2; rfl
          subst this
          have hmid : mid1 = mid := by
            have h4 : p = p1 ∧ mid ++ q = mid1 ++ q1 := List.append_inj (eC.symm.trans eC1) (by omega)
            exact (List.append_inj h4.2 (by omega)).1.symm
          subst hmid
          have hc : cellsAt w L mid1 := ⟨_, T, fr, p, q, hC1, eC, hp, hz, hu⟩
          have hb1 := mul_row (m := τ.cells) (s := sub + vv.cells.toList.length) hrow1 hsub
          have hbound : L.base + (row * τ.cells + sub) + vv.cells.toList.length ≤ L.size := by
            have := congrArg List.length eC
            simp only [Array.length_toList, List.length_append] at this
            omega
          obtain ⟨o, hrun, hc'⟩ := write_ok (P := P) (k := row * τ.cells + sub) hc (by omega) hbound (relCs_one hcells)
          have hrow' := relRows_set (f := relT K1.S τ) (n := τ.cells) (fun x us h => relT_len h) hx hrow1 hrr1
          have emid : mid1.take (row * τ.cells + sub) ++ (vv.cells.toList ++ mid1.drop (row * τ.cells + sub + vv.cells.toList.length)) = mid1.take (row * τ.cells) ++ ((p2 ++ (vv.cells.toList ++ ws2)) ++ mid1.drop (row * τ.cells + τ.cells)) := by
            have h3 : us.length = τ.cells := relT_len hf
            have h5 := congrArg List.length e2
            simp only [List.length_append] at h5
            have := splice pre p2 us2 ws2 post vv.cells.toList τ.cells (by omega) hl4
            rw [← e2, ← e1, hl1, hl3] at this
            exact this
          rw [emid] at hc'
          obtain ⟨h4, h5⟩ := hR1.setB (blk := .rows τ (ys.set row x)) hg1 hL1 hvirt ⟨hszL, by rw [List.length_set]; exact hn1, .inr ⟨hvirt, _, hc', hrow'⟩⟩ (by simp) (by simp)
          refine ⟨K1, _, _, go ?_, h4, hE1.trans h5, hk'⟩
          rw [← Nat.add_assoc] at hrun
          rw [hszL, ← Nat.add_assoc]
          exact hrun
        · exact hk.elim
      · exact hk.elim
    · exact hk.elim
  · exact hk.elim

end Go.Tw

/- Slices that are made. -/
namespace Go.Tw
open Go

variable {P : Program} {K K' : KW} {h : Heap} {w w' : World}

theorem noughts (z : Array Value) : ∀ n, (List.range (n * z.size)).map (fun i => z[i % z.size]!) = (List.replicate n z.toList).flatten
  | 0 => by simp
  | n + 1 => by
    rcases Nat.eq_zero_or_pos z.size with h0 | h0
    · have : z = #[] := Array.size_eq_zero_iff.1 h0
      subst this; simp
    · have e : (n + 1) * z.size = z.size + n * z.size := by rw [Nat.add_mul]; omega
      rw [e, List.range_add, List.map_append, List.map_map, List.replicate_succ, List.flatten_cons, ← noughts z n]
      congr 1
      · apply List.ext_getElem
        · simp
        · intro i h1 h2
          simp at h1
          simp [Nat.mod_eq_of_lt h1, h1]
      · apply List.map_congr_left
        intro i _
        simp

theorem relRows_replicate {α : Type} {f : α → List Value → Prop} {x : α} {us : List Value} (hx : f x us) : ∀ n, relRows f (List.replicate n x) (List.replicate n us).flatten
  | 0 => rfl
  | n + 1 => ⟨us, _, rfl, hx, relRows_replicate hx n⟩

/-- Nought's rows. -/
theorem nought_rows {t : TypeId} {τ : Ty} (ht : tyT P t = some τ) (n : Nat) (w : World) :
    ∃ zc : Array Value, ((n * τ.cells = 0 ∧ zc = #[]) ∨ (¬ n * τ.cells = 0 ∧ ∃ z, (zeroValue t).run P w = .ok z w ∧ zc = z.cells)) ∧ relRows (relT K.S τ) (List.replicate n τ.zero) ((Array.range (n * τ.cells)).map (zc[· % zc.size]!)).toList ∧
      ((Array.range (n * τ.cells)).map (zc[· % zc.size]!)).size = n * τ.cells := by
  obtain ⟨z, hz, hr, hs⟩ := tyT_sound (K := K) ht
  have hlen : z.cells.size = τ.cells := by have := relT_len hr; rwa [Array.length_toList] at this
  have hrows := relRows_replicate hr n
  by_cases h0 : n * τ.cells = 0
  · refine ⟨#[], .inl ⟨h0, rfl⟩, ?_, by simp⟩
    have e : (List.replicate n z.cells.toList).flatten = [] := by
      apply List.eq_nil_of_length_eq_zero
      simpa [hlen] using h0
    rw [e] at hrows
    simpa [h0] using hrows
  · refine ⟨z.cells, .inr ⟨h0, z, hz w, rfl⟩, ?_, by simp⟩
    have e : ((Array.range (n * τ.cells)).map (z.cells[· % z.cells.size]!)).toList = (List.replicate n z.cells.toList).flatten := by
      rw [← noughts, hlen]; simp
    rw [e]; exact hrows

theorem nought_list {t : TypeId} {z : Value} (hz : ∀ w, (zeroValue t).run P w = .ok z w) (n : Nat) (w : World) :
    ∃ zc : Array Value, ((n * z.cells.size = 0 ∧ zc = #[]) ∨ (¬ n * z.cells.size = 0 ∧ ∃ z, (zeroValue t).run P w = .ok z w ∧ zc = z.cells)) ∧ ((Array.range (n * z.cells.size)).map (zc[· % zc.size]!)).toList = (List.replicate n z.cells.toList).flatten := by
  by_cases h0 : n * z.cells.size = 0
  · refine ⟨#[], .inl ⟨h0, rfl⟩, ?_⟩
    have e : (List.replicate n z.cells.toList).flatten = [] := by
      apply List.eq_nil_of_length_eq_zero
      simpa using h0
    rw [e]
    simp [h0]
  · refine ⟨z.cells, .inr ⟨h0, z, hz w, rfl⟩, ?_⟩
    rw [← noughts]; simp

theorem relCs_replicate {zs : List AV} {us : List Value} (h : relCs K zs us) : ∀ n, relCs K (List.replicate n zs).flatten (List.replicate n us).flatten
  | 0 => rfl
  | n + 1 => by
    rw [List.replicate_succ, List.flatten_cons, List.replicate_succ, List.flatten_cons]
    exact relCs_append.2 ⟨us, _, rfl, h, relCs_replicate h n⟩

theorem parts_sound {τ : Ty} {e : Operand → AV} {r : Operand → Value} {Q : List τ.den → Heap → Prop} : ∀ (parts : List (Nat × Operand)) (K : KW) (h : Heap) (xs : List τ.den) (C : Array Value), (∀ x, rel K (e x) (r x)) → R K h w → relRows (relT K.S τ) xs C.toList →
    partsK Alg.prop τ (parts.map fun p => (p.1, e p.2)) xs h Q →
    Moves K h w fun K' h' => ∃ zs C', Instr.fill (fun i => some (i * τ.cells, τ.cells)) C (parts.map fun p => (p.1, r p.2)) = some C' ∧ relRows (relT K'.S τ) zs C'.toList ∧ zs.length = xs.length ∧ Q zs h'
  | [], K, h, xs, C, he, hR, hr, hk => ⟨K, h, hR, .refl _ _ _, xs, C, rfl, hr, rfl, hk⟩
  | (i, o) :: parts, K, h, xs, C, he, hR, hr, hk => by
    simp only [List.map_cons, partsK] at hk
    split at hk
    · rename_i hi
      obtain ⟨K1, h1, hR1, hE1, x, hx, _, hk⟩ := reify1_sound hR (he o) hk
      rw [setK_prop] at hk
      have hxl : (r o).cells.toList.length = τ.cells := relT_len hx
      have hr1 : relRows (relT K1.S τ) xs C.toList := relRows_imp (relT_mono hE1.le.S τ) _ _ hr
      have hset := relRows_set (f := relT K1.S τ) (n := τ.cells) (fun x us h => relT_len h) hx hi hr1
      have hCl := relRows_len hr1
      obtain ⟨pre, us, post, e1, hl1, hl2, hf⟩ := relRows_get (f := relT K1.S τ) (n := τ.cells) (fun x us h => relT_len h) hi hr1
      have hf' := fold_set (r o).cells.toList pre us post (i * τ.cells) hl1 (by omega) 0 C e1
      rcases hf' with hf' | hf'
      · have hf'' : (((r o).cells.zipIdx.foldl (fun cs (p : Value × Nat) => cs.setIfInBounds (i * τ.cells + p.2) p.1) C)).toList = C.toList.take (i * τ.cells) ++ ((r o).cells.toList ++ C.toList.drop (i * τ.cells + τ.cells)) := by
          rw [← Array.foldl_toList, Array.toList_zipIdx]
          have e2 : C.toList.take (i * τ.cells) = pre := by rw [e1]; exact List.take_left' hl1
          have e3 : C.toList.drop (i * τ.cells + τ.cells) = post := by
            rw [e1, ← List.append_assoc]; exact List.drop_left' (by simp; omega)
          rw [e2, e3]
          simpa using hf'
        rw [← hf''] at hset
        obtain ⟨K2, h2, hR2, hE2, zs, C', h3, h4, h5, h6⟩ := parts_sound parts K1 h1 _ _ (fun x => rel_mono hE1.le _ _ (he x)) hR1 hset hk
        refine ⟨K2, h2, hR2, hE1.trans hE2, zs, C', ?_, h4, by rw [h5]; simp, h6⟩
        simp only [List.map_cons, Instr.fill]
        rw [if_neg]
        · exact h3
        · rw [Array.length_toList] at hxl hCl
          have := mul_row (m := τ.cells) (s := τ.cells) hi (Nat.le_refl _)
          simp only [ne_eq, Bool.or_eq_true, decide_eq_true_eq]
          omega
      · omega
    · exact hk.elim

theorem zs_len {α : Type} {xs : List α} {n : Nat} (h : xs.length = n) (Q : Nat → Prop) (hq : Q n) : Q xs.length := h ▸ hq

theorem buildSlice_sound {cl : Bool} {e : Operand → AV} {r : Operand → Value} (he : ∀ x, rel K (e x) (r x)) {t : TypeId} {len : Nat} {parts : Array (Nat × Operand)} {Q : AV → Heap → Prop} (hR : R K h w)
    (hk : buildSliceK Alg.prop P h t len (parts.toList.map fun (i, x) => (i, e x)) Q) : Acts P K h w (Instr.buildSlice t len (parts.map fun (i, x) => (i, r x))) Q := by
  unfold buildSliceK at hk
  split at hk
  · rename_i el hu
    split at hk
    · rename_i τ hτ
      split at hk
      · rename_i hle
        obtain ⟨zc, hz1, hz2, hz3⟩ := nought_rows (K := K) hτ len w
        obtain ⟨_, _, _, hs⟩ := tyT_sound (K := K) hτ
        obtain ⟨K1, h1, hR1, hE1, zs, C', hfill, hr', hlen, hk⟩ := parts_sound parts.toList K h _ _ he hR hz2 hk
        rw [fL_eq] at hk
        rw [List.length_replicate] at hlen
        have hCl := relRows_len hr'
        rw [Array.length_toList, hlen] at hCl
        have hk' : h1.newK (.rows τ zs) fun id h => Q (.slr id τ.cells 0 zs.length true len true true) h := by rw [hlen]; exact hk
        obtain ⟨v, K2, h2, w2, av, hrun, q1, q2, q3, q4⟩ := new_rows (P := P) (T := el) (C := C') (post := []) (c := len) (cap := len) (ex := true) (nn := true) hR1 hr' (by simp) (by omega) (Nat.le_refl _) (fun _ => rfl) (by omega) hk'
        refine ⟨v, K2, h2, w2, av, ?_, q1, q2, hE1.trans q3, q4⟩
        have hp : (parts.map fun (i, x) => (i, r x)).toList = parts.toList.map fun p => (p.1, r p.2) := by simp
        rw [hlen] at hrun
        have hg : ¬ len * τ.cells > 2 ^ 24 := by omega
        rcases hz1 with ⟨h0, rfl⟩ | ⟨h0, z, hz, rfl⟩
        · simp only [Instr.buildSlice, Sem.run_bind, run_underlying hu, Result.andThen_ok, run_sizeT hs, if_neg hg, hp, hfill, Sem.run_pure, if_pos h0]
          simpa using hrun
        · simp only [Instr.buildSlice, Sem.run_bind, run_underlying hu, Result.andThen_ok, run_sizeT hs, if_neg hg, hp, hfill, Sem.run_pure, if_neg h0, hz]
          simpa using hrun
      · exact hk.elim
    · split at hk
      · rename_i hnone zs sz hz hs
        split at hk
        · rename_i hle
          obtain ⟨z, n, hz1, hz2, hz3, hz4⟩ := zeroT_sound (K := K) hz
          cases hs.symm.trans hz3
          obtain ⟨zc, hz5, hz6⟩ := nought_list hz1 len w
          rw [hz4] at hz5 hz6
          have hrel : relCs K (List.replicate len zs).flatten ((Array.range (len * sz)).map (zc[· % zc.size]!)).toList := by rw [hz6]; exact relCs_replicate hz2 len
          obtain ⟨B, cs', hfill, hB, hk, hBs⟩ := fill_sound he parts.toList _ _ hrel hk
          rw [fL_eq, Heap.newK_eq] at hk
          obtain ⟨K', h1, h2, h3⟩ := hR.pushCells hB el
          refine ⟨.slice (some ⟨w.heap.size, 0, none⟩) len len, K', _, _, .slc h.next 0 sz len len true, ?_, ⟨_, len, h3, rfl, rfl, Nat.le_refl _, Nat.le_refl _, fun _ => rfl⟩, h1, h2, hk⟩
          have hp : (parts.map fun (i, x) => (i, r x)).toList = parts.toList.map fun p => (p.1, r p.2) := by simp
          have hg : ¬ len * sz > 2 ^ 24 := by omega
          rcases hz5 with ⟨h0, rfl⟩ | ⟨h0, z, hz, rfl⟩
          · simp only [Instr.buildSlice, Sem.run_bind, run_underlying hu, Result.andThen_ok, run_sizeT hs, if_neg hg, hp, hfill, Sem.run_pure, if_pos h0]
            simp [newRow]
          · simp only [Instr.buildSlice, Sem.run_bind, run_underlying hu, Result.andThen_ok, run_sizeT hs, if_neg hg, hp, hfill, Sem.run_pure, if_neg h0, hz]
            simp [newRow]
        · exact hk.elim
      · exact hk.elim
  · exact hk.elim

theorem wrap64 {n : Int} (h0 : 0 ≤ n) (h1 : n ≤ 281474976710656) : IntKind.i64.wrap n = n := by
  have e : n % (2 ^ 64 : Int) = n := Int.emod_eq_of_lt h0 (by omega)
  show (if (true && decide (n % (2 ^ 64 : Int) ≥ (2 ^ (64 - 1) : Int))) = true then n % (2 ^ 64 : Int) - 2 ^ 64 else n % (2 ^ 64 : Int)) = n
  simp only [e]
  rw [if_neg]
  simp
  omega

theorem run_typeInfo' {t : TypeId} {i : TypeInfo} (h : P.info? t = some i) (w : World) : (typeInfo t).run P w = .ok i w := by simp [typeInfo, h]

theorem makeSlice_sound {cl same : Bool} {t : TypeId} {l c : AV} {vl vc : Value} {Q : AV → Heap → Prop} (hR : R K h w) (hl : rel K l vl) (hc : rel K c vc) (hsame : same = true → ∀ k a k' b, vl = .int k a → vc = .int k' b → a = b)
    (hk : makeSliceK Alg.prop P cl h t same l c Q) : Acts P K h w (Instr.makeSlice t vl vc) Q := by
  unfold makeSliceK at hk
  split at hk
  · rename_i e hu
    split at hk
    · rename_i τ by_ hτ hby
      obtain ⟨kl, l, rfl, hk⟩ := int_of_rel hl hk
      obtain ⟨kc, c, rfl, hk⟩ := int_of_rel hc hk
      obtain ⟨⟨h0, hlc, hb, hc48⟩, hk⟩ := br_yes hk
      obtain ⟨_, _, _, hs⟩ := tyT_sound (K := K) hτ
      obtain ⟨i, hi, hbe⟩ : ∃ i, P.info? e = some i ∧ i.bytes = by_ := by
        unfold bytesT at hby
        split at hby
        · rename_i i hi; exact ⟨i, hi, by simpa using hby⟩
        · cases hby
      obtain ⟨zc, hz1, hz2, hz3⟩ := nought_rows (K := K) hτ c.toNat w
      obtain ⟨us, ws, e1, hl1, hr1, _⟩ := relRows_cut hz2 l.toNat
      have hrep : (List.replicate c.toNat τ.zero).take l.toNat = List.replicate l.toNat τ.zero := by
        rw [List.take_replicate, Nat.min_eq_left (by omega)]
      rw [hrep] at hr1
      have hk' : ∃ ex, (ex = true → (c.toNat : Nat) = l.toNat) ∧ h.newK (.rows τ (List.replicate l.toNat τ.zero)) fun id h => Q (.slr id τ.cells 0 (List.replicate l.toNat τ.zero).length true l.toNat ex true) h := by
        rw [List.length_replicate]
        split at hk
        · rename_i hsm
          rw [fL_eq] at hk
          have := hsame rfl _ _ _ _ rfl rfl
          exact ⟨true, fun _ => by omega, hk⟩
        · rw [fL_eq] at hk
          exact ⟨false, (fun h => by cases h), hk⟩
      obtain ⟨ex, hex, hk'⟩ := hk'
      obtain ⟨v, K2, h2, w2, av, hrun, q⟩ := new_rows (P := P) (T := e) (C := (Array.range (c.toNat * τ.cells)).map (zc[· % zc.size]!)) (c := c.toNat) (cap := l.toNat) (ex := ex) (nn := true) hR hr1 e1 (by rw [List.length_replicate]; omega) (by omega) hex (by rw [hz3]; exact Nat.le_refl _) hk'
      refine ⟨v, K2, h2, w2, av, ?_, q⟩
      rw [List.length_replicate] at hrun
      have w1 := wrap64 h0 (by omega : l ≤ 281474976710656)
      have w2' := wrap64 (by omega : 0 ≤ c) hc48
      have g1 : ¬ (decide (c < 0) || decide ((i.bytes : Int) * c > 2 ^ 48)) = true := by
        rw [hbe]; simp; omega
      have g2 : ¬ ((decide (c < 0) || decide ((i.bytes : Int) * c > 2 ^ 48)) || decide (l < 0) || decide (l > c)) = true := by
        rw [hbe]; simp; omega
      rcases hz1 with ⟨h0', rfl⟩ | ⟨h0', z, hz, rfl⟩
      · simp only [Instr.makeSlice, Sem.run_bind, run_underlying hu, Result.andThen_ok, asInt, asIntOf, Sem.run_pure, run_typeInfo' hi, w1, w2', if_neg g2, run_askRoom, run_sizeT hs, if_pos h0']
        simp only [Sem.run_bind, Sem.run_pure] at hrun
        exact hrun
      · simp only [Instr.makeSlice, Sem.run_bind, run_underlying hu, Result.andThen_ok, asInt, asIntOf, Sem.run_pure, run_typeInfo' hi, w1, w2', if_neg g2, run_askRoom, run_sizeT hs, if_neg h0', hz]
        simp only [Sem.run_bind, Sem.run_pure] at hrun
        exact hrun
    · exact hk.elim
  · exact hk.elim

end Go.Tw

/- Maps that change. -/
namespace Go.Tw
open Go Go.MapKept

variable {P : Program} {K K' : KW} {h : Heap} {w w' : World}

theorem relT_det {S : Nat → Option (Array Value)} : ∀ {κ : Ty} (_ : κ.pos) {x : κ.den} {us vs : List Value}, relT S κ x us → relT S κ x vs → us = vs
  | .i _, _, _, _, _, h1, h2 => by cases (h1 : _ = _); cases (h2 : _ = _); rfl
  | .u _, _, _, _, _, h1, h2 => by cases (h1 : _ = _); cases (h2 : _ = _); rfl
  | .bool, _, _, _, _, h1, h2 => by cases (h1 : _ = _); cases (h2 : _ = _); rfl
  | .str, _, _, _, _, h1, h2 => by cases (h1 : _ = _); cases (h2 : _ = _); rfl
  | .pair a b, ⟨pa, pb⟩, _, _, _, ⟨u1, u2, e1, h1, h2⟩, ⟨v1, v2, e2, h3, h4⟩ => by rw [e1, e2, relT_det pa h1 h3, relT_det pb h2 h4]
  | .barr _, _, _, _, _, h1, h2 => by rw [h1.2, h2.2]

theorem bits_byte (n : Nat) (b : B8) : Instr.sameBits n (byteV b) (byteV b) = true := by simp [byteV, Instr.sameBits]

theorem bits_int (n : Nat) (k : IntKind) (x : Int) : Instr.sameBits n (.int k x) (.int k x) = true := by simp [Instr.sameBits]
theorem bits_bool (n : Nat) (x : Bool) : Instr.sameBits n (.bool x) (.bool x) = true := by simp [Instr.sameBits]
theorem bits_str (n : Nat) (x : List B8) : Instr.sameBits n (strV x) (strV x) = true := by simp only [strV, Instr.sameBits]; exact (bytes_beq _ _).2 rfl

theorem relT_bits {S : Nat → Option (Array Value)} (n : Nat) : ∀ {κ : Ty} (_ : κ.pos) {x : κ.den} {us : List Value}, relT S κ x us → ∀ u ∈ us, Instr.sameBits n u u = true
  | .i _, _, _, _, h, u, hu => by cases (h : _ = _); rw [List.mem_singleton.1 hu]; exact bits_int n _ _
  | .u _, _, _, _, h, u, hu => by cases (h : _ = _); rw [List.mem_singleton.1 hu]; exact bits_int n _ _
  | .bool, _, _, _, h, u, hu => by cases (h : _ = _); rw [List.mem_singleton.1 hu]; exact bits_bool n _
  | .str, _, _, _, h, u, hu => by cases (h : _ = _); rw [List.mem_singleton.1 hu]; exact bits_str n _
  | .pair a b, ⟨pa, pb⟩, _, _, ⟨u1, u2, e1, h1, h2⟩, u, hu => by
    rw [e1] at hu
    rcases List.mem_append.1 hu with hu | hu
    · exact relT_bits n pa h1 u hu
    · exact relT_bits n pb h2 u hu
  | .barr _, _, x, _, h, u, hu => by
    rw [h.2] at hu
    obtain ⟨b, _, rfl⟩ := List.mem_map.1 hu
    exact bits_byte n b

theorem valOf_agg {κ : Ty} {x : κ.den} {v : Value} (h : rel K (valOf true κ x) v) : ∃ a, v = .agg a ∧ relT K.S κ x a.toList := by
  obtain ⟨a, e, hr⟩ := h
  exact ⟨a, e, relCs_embed.1 hr⟩

theorem keyOk_sc {t : TypeId} {κ : Ty} (h : keyOk P t κ false = true) : ∃ f : κ.den → AV, ∀ x, embed κ x = [f x] ∧ solid (f x) = true ∧ valOf false κ x = f x := by
  unfold keyOk at h
  split at h
  · split at h
    · exact ⟨fun x => .str x, fun x => ⟨rfl, rfl, rfl⟩⟩
    · cases h
  · split at h
    · rename_i h0; cases h0
    · cases h
  · split at h
    · rename_i h0; cases h0
    · cases h
  · rename_i h1 h2 h3
    split at h
    · unfold keyT at h
      split at h
      · split at h
        · exact ⟨fun x => .bool x, fun x => ⟨rfl, rfl, rfl⟩⟩
        · cases h
      · split at h
        · exact ⟨fun x => .i _ x, fun x => ⟨rfl, rfl, rfl⟩⟩
        · exact ⟨fun x => .u _ x, fun x => ⟨rfl, rfl, rfl⟩⟩
        · cases h
      · rename_i hu; exact (h2 _ hu).elim
      · rename_i hu; exact (h3 _ _ hu).elim
      · cases h
    · cases h

theorem valOf_sc {t : TypeId} {κ : Ty} (h : keyOk P t κ false = true) {x : κ.den} {v : Value} (hv : rel K (valOf false κ x) v) : relT K.S κ x [v] := by
  obtain ⟨f, hf⟩ := keyOk_sc h
  obtain ⟨e1, e2, e3⟩ := hf x
  rw [e3] at hv
  refine relCs_embed.1 ?_
  rw [e1]
  refine ⟨[v], [], rfl, ?_, rfl⟩
  generalize f x = a at *
  cases a <;> first | exact ⟨v, rfl, hv⟩ | exact hv.elim | cases e2

theorem key_det {t : TypeId} {κ : Ty} {ka : Bool} (h : keyOk P t κ ka = true) {x : κ.den} {v v' : Value} (h1 : rel K (valOf ka κ x) v) (h2 : rel K (valOf ka κ x) v') : v = v' ∧ Instr.sameBits 10000 v v = true := by
  have hp := keyOk_flat h
  cases ka
  · have g1 := valOf_sc h h1
    have g2 := valOf_sc h h2
    have := relT_det hp g1 g2
    exact ⟨by simpa using this, relT_bits _ hp g1 v (by simp)⟩
  · obtain ⟨a, rfl, g1⟩ := valOf_agg h1
    obtain ⟨b, rfl, g2⟩ := valOf_agg h2
    have := relT_det hp g1 g2
    refine ⟨by rw [Array.ext' this], ?_⟩
    have hb := relT_bits 9999 hp g1
    show (a.size == a.size && (a.toList.zip a.toList).all fun (x, y) => Instr.sameBits 9999 x y) = true
    simp only [beq_self_eq_true, Bool.true_and, List.all_eq_true]
    rintro ⟨x, y⟩ hxy
    have : x = y ∧ x ∈ a.toList := by
      rw [List.zip_eq_zipWith] at hxy
      obtain ⟨i, hi, e⟩ := List.getElem_of_mem hxy
      simp at e
      obtain ⟨rfl, rfl⟩ := e
      exact ⟨rfl, by simp⟩
    obtain ⟨rfl, hx⟩ := this
    exact hb x hx

theorem ixM_some {κ : Ty} {α : Type} (k : κ.den) (v : α) : ∀ {es : List (κ.den × α)} {j : Nat}, ixM k es = some j → ∃ a w, es[j]? = some (a, w) ∧ a = k ∧ upsert k v es = es.set j (k, v) ∧ eraseM k es = es.eraseIdx j
  | [], j, h => by simp [ixM] at h
  | (a, w) :: es, j, h => by
    unfold ixM at h
    split at h
    · rename_i hb
      cases h
      exact ⟨a, w, rfl, ((beq_iff _ _ _).1 hb).symm, by simp [upsert, hb], by simp [eraseM, hb]⟩
    · rename_i hb
      obtain ⟨i, hi, rfl⟩ := Option.map_eq_some_iff.1 h
      obtain ⟨a', w', h1, h2, h3, h4⟩ := ixM_some k v hi
      exact ⟨a', w', by simpa using h1, h2, by simp [upsert, hb, h3], by simp [eraseM, hb, h4]⟩

theorem ixM_none {κ : Ty} {α : Type} (k : κ.den) (v : α) : ∀ {es : List (κ.den × α)}, ixM k es = none → upsert k v es = es ++ [(k, v)] ∧ eraseM k es = es
  | [], h => ⟨rfl, rfl⟩
  | (a, w) :: es, h => by
    unfold ixM at h
    split at h
    · cases h
    · rename_i hb
      obtain ⟨h1, h2⟩ := ixM_none k v (Option.map_eq_none_iff.1 h)
      exact ⟨by simp [upsert, hb, h1], by simp [eraseM, hb, h2]⟩

theorem ents_append {ka va : Bool} {κ τ : Ty} {x : κ.den × τ.den} {e : MapEntry} (h1 : rel K (valOf ka κ x.1) e.key) (h2 : rel K (valOf va τ x.2) e.val) : ∀ {es : List (κ.den × τ.den)} {E : List MapEntry}, entsRel K ka va κ τ es E → entsRel K ka va κ τ (es ++ [x]) (E ++ [e])
  | [], E, h => by cases (h : E = []); exact ⟨e, [], rfl, h1, h2, rfl⟩
  | y :: es, E, ⟨e', rest, eE, g1, g2, hr⟩ => ⟨e', rest ++ [e], by rw [eE]; rfl, g1, g2, ents_append h1 h2 hr⟩

theorem ents_set {ka va : Bool} {κ τ : Ty} {x : κ.den × τ.den} {e : MapEntry} (h1 : rel K (valOf ka κ x.1) e.key) (h2 : rel K (valOf va τ x.2) e.val) : ∀ {es : List (κ.den × τ.den)} {E : List MapEntry} (_ : entsRel K ka va κ τ es E) (j : Nat), entsRel K ka va κ τ (es.set j x) (E.set j e)
  | [], E, h, j => by cases (h : E = []); exact rfl
  | y :: es, E, ⟨e', rest, eE, g1, g2, hr⟩, 0 => ⟨e, rest, by rw [eE]; rfl, h1, h2, hr⟩
  | y :: es, E, ⟨e', rest, eE, g1, g2, hr⟩, j + 1 => ⟨e', rest.set j e, by rw [eE]; rfl, g1, g2, ents_set h1 h2 hr j⟩

theorem ents_erase {ka va : Bool} {κ τ : Ty} : ∀ {es : List (κ.den × τ.den)} {E : List MapEntry} (_ : entsRel K ka va κ τ es E) (j : Nat), entsRel K ka va κ τ (es.eraseIdx j) (E.eraseIdx j)
  | [], E, h, j => by cases (h : E = []); exact rfl
  | y :: es, E, ⟨e', rest, eE, g1, g2, hr⟩, 0 => by rw [eE]; exact hr
  | y :: es, E, ⟨e', rest, eE, g1, g2, hr⟩, j + 1 => ⟨e', rest.eraseIdx j, by rw [eE]; rfl, g1, g2, ents_erase hr j⟩

theorem mp_ne {a b : Bool} {κ' τ' : Ty} {es' : List (κ'.den × τ'.den)} : ∀ ka va κ τ (es : List (κ.den × τ.den)) i left last, Blk.mp a b κ' τ' es' none ≠ .mp ka va κ τ es (some (i, left, last)) := by
  intro ka va κ τ es i left last e
  cases e

theorem makeMap_sound {t : TypeId} {ka va : Bool} {κ τ : Ty} {Q : AV → Heap → Prop} (hR : R K h w) (hk : h.newK (.mp ka va κ τ [] none) fun id h => Q (.map id) h) : Acts P K h w (Instr.makeMap t none) Q := by
  rw [Heap.newK_eq] at hk
  obtain ⟨h1, h2⟩ := hR.push (o := .map #[] 0) (L := cellLoc w 0) (blk := .mp ka va κ τ [] none) rfl rfl
    ⟨rfl, #[], 0, by simp [cellLoc], rfl, ⟨by simp, by simp⟩, trivial⟩ mp_ne
  exact ⟨.map (some w.heap.size), _, _, _, .map h.next, by simp [Instr.makeMap], ⟨_, KW.new_self, rfl⟩, h1, h2, hk⟩

theorem run_setMap {b : Nat} {E : Array MapEntry} {clk : Nat} (hb : w.heap[b]? = some (.map E clk)) (o : Obj) : (setObj b o).run P w = .ok () (putB w b o) := run_setObj_map o hb

theorem mapUpdate_sound {cl : Bool} {t : TypeId} {m k v : AV} {vm vk vv : Value} {Q : Heap → Prop} (hR : R K h w) (hm : rel K m vm) (hkr : rel K k vk) (hv : rel K v vv) (hk : mapUpdateK Alg.prop P cl h t m k v Q) :
    ActsU P K h w (Instr.mapUpdate t vm vk vv) Q := by
  unfold mapUpdateK at hk
  split at hk
  · rename_i ka va κ τ id hmt
    obtain ⟨kt, et, hu, ht, hz, hok⟩ := mapT_sound hmt
    split at hk
    · exact hk.elim
    · rename_i hd
      simp only [decide_eq_true_eq] at hd
      obtain ⟨kx, hkx, hk⟩ := key_sound hok hkr hd.1 hk
      obtain ⟨K1, h1, hR1, hE1, y, hy, hag, hk⟩ := reify1_sound hR hv hk
      have hy' := valOf_rel hy (hag.trans hd.2)
      have hkx' := rel_mono hE1.le _ _ hkx
      split at hk
      · rename_i ka' va' κ' τ' es it hg
        obtain ⟨e1, hk1⟩ := castD_prop hk
        clear hk
        cases e1
        split at hk1
        · rename_i hd2
          simp only [decide_eq_true_eq] at hd2
          obtain ⟨rfl, rfl⟩ := hd2
          have hk2 : fL cl (upsert kx y es) fun es => h1.setK id (.mp ka' va' κ τ es none) Q := hk1
          rw [fL_eq, Heap.setK_eq] at hk2
          obtain ⟨L, hL, rfl⟩ := hm
          obtain ⟨L', hL', hv0, E, clk, hb, he, hborn, _⟩ := hR1.live _ _ hg
          cases (hE1.le.β _ _ hL).symm.trans hL'
          have hget := MapKept.run_getObj_map (P := P) hb
          have hchk := check_sound hok hkx' false w
          have hbs : L.b < w.heap.size := (Array.getElem?_eq_some_iff.1 hb).1
          rcases find_sound (w := w) hok hkx' he with ⟨g1, g2⟩ | ⟨j, en, g1, g2, g3⟩
          · obtain ⟨eup, _⟩ := ixM_none kx y g1
            rw [eup] at hk2
            have hblk : blkRel K1 L (.mp ka' va' κ τ (es ++ [(kx, y)]) none) (putB w L.b (.map (E.push { key := vk, val := vv, born := clk }) (clk + 1))) := by
              refine ⟨hv0, _, _, putB_self hbs, ?_, ?_, trivial⟩
              · rw [Array.toList_push]; exact ents_append hkx' hy' he
              · obtain ⟨hn, hlt⟩ := hborn
                refine ⟨?_, ?_⟩
                · rw [Array.toList_push, List.map_append, List.nodup_append]
                  refine ⟨hn, by simp, ?_⟩
                  intro a ha b hb' hab
                  obtain ⟨x, hx, rfl⟩ := List.mem_map.1 ha
                  simp at hb'
                  have := hlt x hx
                  omega
                · intro e he'
                  rw [Array.toList_push, List.mem_append] at he'
                  rcases he' with he' | he'
                  · have := hlt e he'; omega
                  · simp at he'; subst he'; simp
            obtain ⟨q1, q2⟩ := hR1.setB hg hL' hv0 hblk (by simp) mp_ne
            refine ⟨K1, _, _, ?_, q1, hE1.trans q2, hk2⟩
            simp [Instr.mapUpdate, run_underlying hu, hget, hchk, g2, run_setMap hb]
          · obtain ⟨a, w0, h3, rfl, eup, _⟩ := ixM_some kx y g1
            rw [eup] at hk2
            obtain ⟨x, hx, hxk, hxv⟩ := ents_get he j en g2
            cases h3.symm.trans hx
            obtain ⟨ekey, hbits⟩ := key_det hok hkx' hxk
            have hE : E[j]? = some en := by simpa using g2
            obtain ⟨hlt, hEj⟩ := Array.getElem?_eq_some_iff.1 hE
            have hst : (Instr.keyThatStays (((E[j]?).map (·.key)).getD vk) vk).run P w = .ok vk w := by
              simp [Instr.keyThatStays, hE, ← ekey, hbits]
            have hmod : (E.modify j fun e => { e with key := vk, val := vv }).toList = E.toList.set j { en with key := vk, val := vv } := by
              apply List.ext_getElem?
              intro i
              rw [Array.getElem?_toList, Array.getElem?_modify, List.getElem?_set, Array.getElem?_toList, Array.length_toList]
              by_cases hij : j = i
              · subst hij
                simp [hEj, hlt]
              · simp [hij]
            have hblk : blkRel K1 L (.mp ka' va' κ τ (es.set j (a, y)) none) (putB w L.b (.map (E.modify j fun e => { e with key := vk, val := vv }) clk)) := by
              refine ⟨hv0, _, _, putB_self hbs, ?_, ?_, trivial⟩
              · rw [hmod]; exact ents_set hkx' hy' he j
              · obtain ⟨hn, hclk⟩ := hborn
                have hbn : (E.toList.set j { en with key := vk, val := vv }).map (·.born) = E.toList.map (·.born) := by
                  rw [List.map_set]
                  apply List.ext_getElem?
                  intro i
                  rw [List.getElem?_set]
                  by_cases hij : j = i
                  · subst hij
                    simp [hlt, hEj]
                  · simp [hij]
                rw [hmod]
                refine ⟨by rw [hbn]; exact hn, fun e he' => ?_⟩
                have : e.born ∈ (E.toList.set j { en with key := vk, val := vv }).map (·.born) := List.mem_map.2 ⟨e, he', rfl⟩
                rw [hbn] at this
                obtain ⟨e2, he2, e3⟩ := List.mem_map.1 this
                rw [← e3]; exact hclk e2 he2
            obtain ⟨q1, q2⟩ := hR1.setB hg hL' hv0 hblk (by simp) mp_ne
            refine ⟨K1, _, _, ?_, q1, hE1.trans q2, hk2⟩
            simp [Instr.mapUpdate, run_underlying hu, hget, hchk, g3, hst, run_setMap hb]
        · exact hk1.elim
      · exact hk.elim
  · exact hk.elim

theorem delete_sound {cl : Bool} {t ty : TypeId} {ts : Array TypeId} {as : Array Value} {m k : AV} {vm vk : Value} {Q : Heap → Prop} (ht0 : ts[0]? = some t) (ha0 : as[0]? = some vm) (ha1 : as[1]? = some vk) (hR : R K h w) (hm : rel K m vm) (hkr : rel K k vk)
    (hk : deleteK Alg.prop P cl h t m k Q) : ∃ K' h' w', (Builtin.delete_ ts ty as).run P w = .ok (.tuple #[]) w' ∧ R K' h' w' ∧ Ext K h w K' h' w' ∧ Q h' := by
  unfold deleteK at hk
  split at hk
  · rename_i ka va κ τ hmt
    obtain ⟨kt, et, hu, ht, hz, hok⟩ := mapT_sound hmt
    split at hk
    · exact hk.elim
    · rename_i hd
      simp only [decide_eq_true_eq] at hd
      obtain ⟨kx, hkx, hk⟩ := key_sound hok hkr hd hk
      split at hk
      · cases (hm : vm = _)
        have hchk := check_sound hok hkx true w
        exact ⟨K, h, w, by simp [Builtin.delete_, ht0, ha0, ha1, run_underlying hu, hchk], hR, .refl _ _ _, hk⟩
      · rename_i id _
        split at hk
        · rename_i ka' va' κ' τ' es it hg
          obtain ⟨e1, hk1⟩ := castD_prop hk
          clear hk
          cases e1
          split at hk1
          · rename_i hd2
            simp only [decide_eq_true_eq] at hd2
            obtain ⟨rfl, rfl⟩ := hd2
            have hk2 : fL cl (eraseM kx es) fun es => h.setK id (.mp ka' va' κ τ es none) Q := hk1
            rw [fL_eq, Heap.setK_eq] at hk2
            obtain ⟨L, hL, rfl⟩ := hm
            obtain ⟨L', hL', hv0, E, clk, hb, he, hborn, _⟩ := hR.live _ _ hg
            cases hL.symm.trans hL'
            have hget := MapKept.run_getObj_map (P := P) hb
            have hchk := check_sound hok hkx E.isEmpty w
            have hbs : L.b < w.heap.size := (Array.getElem?_eq_some_iff.1 hb).1
            rcases find_sound (w := w) hok hkx he with ⟨g1, g2⟩ | ⟨j, en, g1, g2, g3⟩
            · have eup := (ixM_none kx τ.zero g1).2
              rw [eup] at hk2
              have hblk : blkRel K L (.mp ka' va' κ τ es none) (putB w L.b (.map E clk)) := ⟨hv0, _, _, putB_self hbs, he, hborn, trivial⟩
              obtain ⟨q1, q2⟩ := hR.setB hg hL hv0 hblk (by simp) mp_ne
              refine ⟨K, _, _, ?_, q1, q2, hk2⟩
              simp [Builtin.delete_, ht0, ha0, ha1, run_underlying hu, hget, hchk, g2, run_setMap hb]
            · obtain ⟨a, w0, h3, rfl, _, eup⟩ := ixM_some kx τ.zero g1
              rw [eup] at hk2
              have hlt : j < E.size := by
                have := (List.getElem?_eq_some_iff.1 g2).1
                simpa using this
              have hel : (E.eraseIdxIfInBounds j).toList = E.toList.eraseIdx j := by
                unfold Array.eraseIdxIfInBounds
                rw [dif_pos hlt]; simp
              have hsub := List.eraseIdx_sublist E.toList j
              have hblk : blkRel K L (.mp ka' va' κ τ (es.eraseIdx j) none) (putB w L.b (.map (E.eraseIdxIfInBounds j) clk)) := by
                refine ⟨hv0, _, _, putB_self hbs, ?_, ?_, trivial⟩
                · rw [hel]; exact ents_erase he j
                · rw [hel]
                  exact ⟨(hsub.map _).nodup hborn.1, fun e he' => hborn.2 e (hsub.subset he')⟩
              obtain ⟨q1, q2⟩ := hR.setB hg hL hv0 hblk (by simp) mp_ne
              refine ⟨K, _, _, ?_, q1, q2, hk2⟩
              simp [Builtin.delete_, ht0, ha0, ha1, run_underlying hu, hget, hchk, g3, run_setMap hb]
          · exact hk1.elim
        · exact hk.elim
      · exact hk.elim
  · exact hk.elim

end Go.Tw
