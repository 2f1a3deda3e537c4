import Derived.Test.YtnoceajodjaplaaGreatTb
import Derived.AtR
import Derived.RangeFuncLeaves
/- All acts, frames and calls of the plain machine stand for the model's; no condition. -/
/- Maps that are cleared, and walked. -/
namespace Go.Tw
open Go Go.MapKept

variable {P : Program} {K K' : KW} {h : Heap} {w w' : World}

theorem clear_sound {t ty : TypeId} {ts : Array TypeId} {as : Array Value} {m : AV} {vm : Value} {Q : Heap → Prop} (ht0 : ts[0]? = some t) (ha0 : as[0]? = some vm) (hR : R K h w) (hm : rel K m vm)
    (hk : clearK Alg.prop P h t m Q) : ∃ K' h' w', (Builtin.clear_ ts ty as).run P w = .ok (.tuple #[]) w' ∧ R K' h' w' ∧ Ext K h w K' h' w' ∧ Q h' := by
  unfold clearK at hk
  split at hk
  · rename_i d hu
    cases (hm : vm = _)
    exact ⟨K, h, w, by simp [Builtin.clear_, ht0, ha0, run_underlying hu], hR, .refl _ _ _, hk⟩
  · rename_i d hu
    cases (hm : vm = _)
    exact ⟨K, h, w, by simp [Builtin.clear_, ht0, ha0, run_underlying hu], hR, .refl _ _ _, hk⟩
  · rename_i d id hu
    split at hk
    · rename_i ka va κ τ es it hg
      rw [Heap.setK_eq] at hk
      obtain ⟨L, hL, rfl⟩ := hm
      obtain ⟨L', hL', hv0, E, clk, hb, he, hborn, _⟩ := hR.live _ _ hg
      cases hL.symm.trans hL'
      have hget := MapKept.run_getObj_map (P := P) hb
      have hbs : L.b < w.heap.size := (Array.getElem?_eq_some_iff.1 hb).1
      have hblk : blkRel K L (.mp ka va κ τ [] none) (putB w L.b (.map #[] clk)) := ⟨hv0, _, _, putB_self hbs, rfl, ⟨by simp, by simp⟩, trivial⟩
      obtain ⟨q1, q2⟩ := hR.setB hg hL hv0 hblk (by simp) mp_ne
      refine ⟨K, _, _, ?_, q1, q2, hk⟩
      simp [Builtin.clear_, ht0, ha0, run_underlying hu, hget, run_setMap hb]
    · exact hk.elim
  · exact hk.elim

theorem range_sound {t : TypeId} {x : AV} {vx : Value} {Q : AV → Heap → Prop} (hR : R K h w) (hx : rel K x vx) (hk : rangeK Alg.prop P h t x Q) : Acts P K h w (Instr.range t vx) Q := by
  unfold rangeK at hk
  split at hk
  · rename_i kt et m hu
    split at hk
    · rename_i ka va κ τ es it hg
      rw [Heap.newK_eq] at hk
      rw [Heap.setK_eq] at hk
      obtain ⟨L, hL, rfl⟩ := hx
      obtain ⟨L', hL', hv0, E, clk, hb, he, hborn, _⟩ := hR.live _ _ hg
      cases hL.symm.trans hL'
      have hget := MapKept.run_getObj_map (P := P) hb
      obtain ⟨r1, r2⟩ := hR.push (o := .mapIter (some L.b) clk #[] clk) (L := cellLoc w 0) (blk := .miter m) rfl rfl ⟨rfl, rfl, some L.b, clk, #[], clk, by simp [cellLoc]⟩ (by simp)
      have hlt := hR.dom _ _ hL
      have hg' : (h.push (.miter m)).get m = some (.mp ka va κ τ es it) := by rw [Heap.get_push, if_neg (by omega)]; exact hg
      obtain ⟨L2, hL2, hv2, E2, clk2, hb2, he2, hborn2, _⟩ := r1.live _ _ hg'
      cases (r2.le.β _ _ hL).symm.trans hL2
      have hbs : L.b < w.heap.size := (Array.getElem?_eq_some_iff.1 hb).1
      have hsame : E2 = E ∧ clk2 = clk := by
        have : (w.heap.push (.mapIter (some L.b) clk #[] clk))[L.b]? = some (.map E clk) := by rw [Array.getElem?_push, if_neg (by omega)]; exact hb
        rw [show (w.heap.push (.mapIter (some L.b) clk #[] clk))[L.b]? = _ from hb2] at this
        cases this; exact ⟨rfl, rfl⟩
      obtain ⟨rfl, rfl⟩ := hsame
      have hflt : E2.toList.filter (fun e => !(#[] : Array Nat).contains e.born) = E2.toList := by
        rw [List.filter_eq_self]; intro a _; simp
      obtain ⟨q1, q2⟩ := r1.setV (blk := .mp ka va κ τ es (some (h.next, es, none))) hg' hL2
        ⟨hv2, E2, clk2, hb2, he2, hborn2, cellLoc w 0, clk2, #[], clk2, KW.new_self, by simp [cellLoc], hborn2.2, hborn2.2, rfl, by rw [hflt]; exact he2, trivial⟩ (by simp)
        (fun ka' va' κ' τ' es' i left last e => by cases e; rw [Heap.get_push, if_pos rfl])
      exact ⟨.pointer (some ⟨w.heap.size, 0, none⟩), _, _, _, .ptr h.next 0, by simp [Instr.range, run_underlying hu, hget], ⟨_, KW.new_self, rfl, rfl⟩, q1, r2.trans q2, hk⟩
    · exact hk.elim
  · exact hk.elim

theorem ents_at {ka va : Bool} {κ τ : Ty} : ∀ {es : List (κ.den × τ.den)} {E : List MapEntry} (_ : entsRel K ka va κ τ es E) (j : Nat) (x : κ.den × τ.den), es[j]? = some x → ∃ e, E[j]? = some e ∧ rel K (valOf ka κ x.1) e.key ∧ rel K (valOf va τ x.2) e.val
  | [], _, _, _, _, hj => by simp at hj
  | _ :: es, E, ⟨e', rest, eE, h1, h2, hr⟩, 0, x, hj => by subst eE; simp at hj; subst hj; exact ⟨e', rfl, h1, h2⟩
  | _ :: es, E, ⟨e', rest, eE, h1, h2, hr⟩, j + 1, x, hj => by subst eE; simpa using ents_at hr j x (by simpa using hj)

/-- What is left behind a step. -/
theorem left_push {E : List MapEntry} (hn : (E.map (·.born)).Nodup) {seen : Array Nat} {i : Nat} {e : MapEntry} (hi : (E.filter fun x => !seen.contains x.born)[i]? = some e) :
    (E.filter fun x => !(seen.push e.born).contains x.born) = (E.filter fun x => !seen.contains x.born).eraseIdx i := by
  have h1 : (E.filter fun x => !(seen.push e.born).contains x.born) = (E.filter fun x => !seen.contains x.born).filter fun x => x.born ≠ e.born := by
    rw [List.filter_filter]
    apply List.filter_congr
    intro x _
    simp [Array.contains_push]
    by_cases hx : x.born = e.born <;> simp [hx]
  rw [h1]
  have hn' : ((E.filter fun x => !seen.contains x.born).map (·.born)).Nodup := (List.filter_sublist.map _).nodup hn
  generalize (E.filter fun x => !seen.contains x.born) = F at *
  clear h1 hn
  induction F generalizing i with
  | nil => simp at hi
  | cons y F ih =>
    simp only [List.map_cons, List.nodup_cons] at hn'
    cases i with
    | zero =>
      simp at hi; subst hi
      rw [List.filter_cons_of_neg (by simp), List.eraseIdx_cons_zero, List.filter_eq_self]
      intro a ha
      simp only [ne_eq, decide_eq_true_eq]
      exact fun e => hn'.1 (e ▸ List.mem_map.2 ⟨a, ha, rfl⟩)
    | succ i =>
      have hi' : F[i]? = some e := by simpa using hi
      have hmem : e ∈ F := List.mem_of_getElem? hi'
      have hy : y.born ≠ e.born := fun h => hn'.1 (h ▸ List.mem_map.2 ⟨e, hmem, rfl⟩)
      rw [List.filter_cons_of_pos (by simpa using hy), List.eraseIdx_cons_succ, ih hi' hn'.2]

theorem run_choose_map (n : Nat) : (choose (.mapNext n)).run P w = if n ≤ 1 then .ok 0 w else .ok (w.tape w.drawn (.mapNext n) % n) { w with drawn := w.drawn + 1 } := by
  simp only [choose, Sem.run, Question.forced, Question.cut, decide_eq_true_eq]

/-- A step of a walk through a map. -/
theorem next_step (hR : R K h w) {id m : Nat} {ka va : Bool} {κ τ : Ty} {es left : List (κ.den × τ.den)} {last : Option (κ.den × τ.den)} {L Lm : Loc} (hg : h.get id = some (.miter m)) (hgm : h.get m = some (.mp ka va κ τ es (some (id, left, last)))) (hL : K.β id = some L) (hLm : K.β m = some Lm)
    {E : Array MapEntry} {clk since : Nat} {seen : Array Nat} (hb : w.heap[Lm.b]? = some (.map E clk)) (he : entsRel K ka va κ τ es E.toList) (hborn : bornOk E.toList clk) (hv : Lm.virt = false)
    (hbi : w.heap[L.b]? = some (.mapIter (some Lm.b) since seen clk)) (hs1 : ∀ e ∈ E.toList, e.born < since) (hleft : entsRel K ka va κ τ left (E.toList.filter fun e => !seen.contains e.born)) {i : Nat} {x : κ.den × τ.den} {e : MapEntry} (hx : left[i]? = some x)
    (hi : (E.toList.filter fun e => !seen.contains e.born)[i]? = some e) (hk1 : rel K (valOf ka κ x.1) e.key) (hk2 : rel K (valOf va τ x.2) e.val) :
    R K (h.set m (.mp ka va κ τ es (some (id, left.eraseIdx i, some x)))) (putB w L.b (.mapIter (some Lm.b) since (seen.push e.born) clk)) ∧ Ext K h w K (h.set m (.mp ka va κ τ es (some (id, left.eraseIdx i, some x)))) (putB w L.b (.mapIter (some Lm.b) since (seen.push e.born) clk)) := by
  obtain ⟨L0, hL0, hv1, hbase, _⟩ := hR.live _ _ hg
  cases hL.symm.trans hL0
  have hbs : L.b < w.heap.size := (Array.getElem?_eq_some_iff.1 hbi).1
  have hne : Lm.b ≠ L.b := fun hh => by rw [hh, hbi] at hb; cases hb
  have hmem : e ∈ E.toList := (List.mem_filter.1 (List.mem_of_getElem? hi)).1
  refine hR.setG hgm hLm (putB_like w L.b _) ?_ ?_ ?_ ?_ (by simp) ?_
  · refine ⟨hv, E, clk, (putB_other hne).trans hb, he, hborn, L, since, seen.push e.born, clk, hL, putB_self hbs, hs1, hborn.2, rfl, ?_, e, hmem, by simp, hk1, hk2⟩
    rw [left_push hborn.1 hi]
    exact ents_erase hleft i
  · intro k y Lk hkm hgk hLk hbk
    by_cases hkid : k = id
    · subst hkid
      rw [hg] at hgk; cases hgk
      cases hL.symm.trans hLk
      exact ⟨hv1, hbase, some Lm.b, since, seen.push e.born, clk, putB_self hbs⟩
    · refine blkRel_frame (.refl K) hbk (fun hvk => putB_other fun e => hkid (hR.inj _ _ _ _ _ _ hgk hg hLk hL hvk hv1 e)) ?_
      rintro ka' va' κ' τ' es' j left' last' rfl Lj hLj
      have hj := hR.iters _ _ _ _ _ _ _ _ _ hgk
      obtain ⟨Lj', hLj', hbj⟩ := hR.live _ _ hj
      cases hLj.symm.trans hLj'
      refine putB_other fun e => ?_
      have := hR.inj _ _ _ _ _ _ hj hg hLj hL hbj.1 hv1 e
      subst this
      rw [hg] at hj; cases hj
      exact hkm rfl
  · intro b C hs
    refine putB_other ?_
    rintro rfl
    rw [hR.sep _ _ _ hg hL hv1] at hs; cases hs
  · intro b hb
    refine putB_other ?_
    rintro rfl
    exact hb ⟨id, _, L, hg, hL, hv1, rfl⟩
  · intro ka' va' κ' τ' es' j left' last' e
    cases e
    exact hg

theorem next_sound {it : AV} {vi : Value} {str : Bool} {ty : TypeId} {Q : AV → Heap → Prop} (hR : R K h w) (hi : rel K it vi) (hk : nextK Alg.prop h it str Q) : Acts P K h w (Instr.next vi str ty) Q := by
  unfold nextK at hk
  split at hk
  · rename_i id
    obtain ⟨L, hL, hv0, rfl⟩ := hi
    split at hk
    · rename_i m hg
      split at hk
      · rename_i ka va κ τ es id' left last hgm
        split at hk
        · rename_i hid
          subst hid
          obtain ⟨L1, hL1, _, hbase, _⟩ := hR.live _ _ hg
          cases hL.symm.trans hL1
          obtain ⟨Lm, hLm, hvm, E, clk, hb, he, hborn, hit⟩ := hR.live _ _ hgm
          obtain ⟨L3, since, seen, stepped, hL3, hbi, hs1, hs2, rfl, hleft, _⟩ := hit
          cases hL.symm.trans hL3
          have hget := MapKept.run_getObj_map (P := P) hb
          have hget1 : (getObj L.b).run P w = .ok (.mapIter (some Lm.b) since seen stepped) w := by simp [getObj, Sem.run, hbi]
          have hset : ∀ o, (setObj L.b o).run P w = .ok () (putB w L.b o) := fun o => by simp [setObj, Sem.run, hbi, putB]
          have hfilt : (E.filter fun (e : MapEntry) => !seen.contains e.born).toList = E.toList.filter fun e => !seen.contains e.born := by simp
          have hguard : ¬ (!seen.isEmpty && !E.isEmpty && E.all (·.born ≥ stepped)) = true := by
            intro hh
            simp only [Bool.and_eq_true, Bool.not_eq_true', Array.isEmpty_eq_false_iff] at hh
            obtain ⟨⟨_, hne⟩, hall⟩ := hh
            obtain ⟨e0, he0⟩ : ∃ e0, e0 ∈ E.toList := List.exists_mem_of_ne_nil _ (by simpa using hne)
            have h1 := hs2 e0 he0
            have h2 := Array.all_eq_true_iff_forall_mem.1 hall e0 (Array.mem_toList_iff.1 he0)
            simp at h2; omega
          have hold : ((E.filter fun (e : MapEntry) => !seen.contains e.born).filter fun e => decide (e.born < since)) = E.filter fun (e : MapEntry) => !seen.contains e.born := by
            apply Array.ext'
            simp only [Array.toList_filter]
            rw [List.filter_eq_self]
            intro a ha
            simpa using hs1 a (List.mem_filter.1 ha).1
          have hnew : ((E.filter fun (e : MapEntry) => !seen.contains e.born).filter fun e => decide (e.born ≥ since)) = #[] := by
            apply Array.ext'
            simp only [Array.toList_filter]
            rw [List.filter_eq_nil_iff]
            intro a ha
            have := hs1 a (List.mem_filter.1 ha).1
            simp; omega
          have hlen := ents_len hleft
          have hFs : (E.filter fun (e : MapEntry) => !seen.contains e.born).size = left.length := by rw [← hlen, ← hfilt, Array.length_toList]
          have go : ∀ (i : Nat) (x : κ.den × τ.den) (wd : World), R K h wd → Ext K h w K h wd → wd.heap = w.heap → left[i]? = some x → (choose (.mapNext (E.filter fun (e : MapEntry) => !seen.contains e.born).size)).run P w = .ok i wd →
              Q (.tup [.bool true, valOf ka κ x.1, valOf va τ x.2]) (h.set m (.mp ka va κ τ es (some (id', left.eraseIdx i, some x)))) → Acts P K h w (Instr.next (.pointer (some ⟨L.b, L.base + 0, none⟩)) false ty) Q := by
            intro i x wd hRd hEd hwd hx hch hq
            obtain ⟨e, hi, r1, r2⟩ := ents_at hleft i x hx
            obtain ⟨q1, q2⟩ := next_step hRd hg hgm hL hLm (by rw [hwd]; exact hb) he hborn hvm (by rw [hwd]; exact hbi) hs1 hleft hx hi r1 r2
            have hne : ¬ (E.filter fun (e : MapEntry) => !seen.contains e.born) = #[] := by
              intro h0
              rw [h0] at hFs
              have := (List.getElem?_eq_some_iff.1 hx).1
              simp at hFs; omega
            have hFi : (E.filter fun (e : MapEntry) => !seen.contains e.born)[i]? = some e := by rw [← Array.getElem?_toList, hfilt]; exact hi
            have hsetd : ∀ o, (setObj L.b o).run P wd = .ok () (putB wd L.b o) := fun o => by simp [setObj, Sem.run, hwd, hbi, putB]
            refine ⟨.tuple #[.bool true, e.key, e.val], K, _, _, .tup [.bool true, valOf ka κ x.1, valOf va τ x.2], ?_, ⟨_, rfl, _, _, rfl, rfl, _, _, rfl, r1, _, _, rfl, r2, rfl⟩, q1, hEd.trans q2, hq⟩
            have hcand : ((if (E.filter fun (e : MapEntry) => !seen.contains e.born).isEmpty then #[none] else #[]) ++ ((E.filter fun (e : MapEntry) => !seen.contains e.born) ++ #[]).map some) = (E.filter fun (e : MapEntry) => !seen.contains e.born).map some := by
              rw [if_neg (by simpa using hne)]; simp
            simp only [Instr.next, hbase, Nat.add_zero, Sem.run_bind, hget1, Result.andThen_ok, hget, if_neg hguard, hold, hnew, hcand, Array.size_map, hch, Array.getElem?_map, hFi, Option.map_some, hsetd, Sem.run_pure]
          split at hk
          · rw [Heap.setK_eq] at hk
            have hF : (E.filter fun (e : MapEntry) => !seen.contains e.born) = #[] := Array.ext' (by rw [hfilt]; exact hleft)
            obtain ⟨q1, q2⟩ := hR.setV (blk := .mp ka va κ τ es none) hgm hLm ⟨hvm, E, stepped, hb, he, hborn, trivial⟩ (by simp) (fun _ _ _ _ _ _ _ _ e => absurd e (mp_ne _ _ _ _ _ _ _ _))
            refine ⟨.tuple #[.bool false], K, _, w, .tup [.bool false], ?_, ⟨_, rfl, _, _, rfl, rfl, rfl⟩, q1, q2, hk⟩
            simp only [Instr.next, hbase, Nat.add_zero, Sem.run_bind, hget1, Result.andThen_ok, hget, if_neg hguard, hold, hnew, hF]
            simp [Question.forced]
          · rename_i k v
            rw [Heap.setK_eq] at hk
            refine go 0 (k, v) w hR (.refl _ _ _) rfl rfl ?_ hk
            rw [run_choose_map, if_pos (by rw [hFs]; simp)]
          · rename_i hn0 hn1
            have hpos : ¬ left.length ≤ 1 := by
              intro hh
              cases left with
              | nil => exact hn0 rfl
              | cons a l => cases l with
                | nil => exact hn1 a.1 a.2 rfl
                | cons b l => simp at hh
            have hlt := Nat.mod_lt (w.tape w.drawn (.mapNext (E.filter fun (e : MapEntry) => !seen.contains e.born).size)) (show left.length > 0 by omega)
            have hk1 := hk _ hlt
            simp only at hk1
            split at hk1
            · rename_i k v hx
              rw [Heap.setK_eq] at hk1
              obtain ⟨d1, d2⟩ := Ext.drew hR (w.drawn + 1)
              refine go _ (k, v) _ d1 d2 rfl hx ?_ hk1
              rw [run_choose_map, if_neg (by rw [hFs]; exact hpos), hFs]
            · exact hk1.elim
        · exact hk.elim
      · exact hk.elim
    · exact hk.elim
  · exact hk.elim

end Go.Tw

/- What is appended and copied. -/
namespace Go.Tw
open Go Go.MapKept

variable {P : Program} {K K' : KW} {h : Heap} {w w' : World}

theorem lies_heap {b o : Nat} {mid : List Value} (h : lies w b o mid) (e : w'.heap = w.heap) : lies w' b o mid := by
  intro j v hj
  have := h j v hj
  simpa [World.cell?, e] using this

theorem sliceIs_heap {v : Value} {n : Nat} {mid : List Value} (h : sliceIs w v n mid) (e : w'.heap = w.heap) : sliceIs w' v n mid := by
  obtain ⟨a, c, e1, hc, hr⟩ := h
  refine ⟨a, c, e1, hc, ?_⟩
  rcases hr with hr | ⟨b, o, e2, hr⟩
  · exact .inl hr
  · exact .inr ⟨b, o, e2, lies_heap hr e⟩

/-- What a source of elements gives. -/
def Src (P : Program) (w : World) (sz : Nat) (v : Value) (n : Nat) (news : List Value) : Prop :=
  news.length = n * sz ∧ (∀ k s, v ≠ .int k s) ∧ ∀ w', w'.heap = w.heap → (Builtin.lenOf v).run P w' = .ok n w' ∧ ∀ k, k ≤ n → (Builtin.firstCells sz k v).run P w' = .ok (news.take (k * sz)).toArray w'

theorem copySrc_sound {τ : Ty} {xd : TypeDesc} {x : AV} {v : Value} {Q : List τ.den → Prop} (hR : R K h w) (hx : rel K x v) (hk : copySrcK Alg.prop h τ xd x Q) :
    ∃ ys news, Q ys ∧ relRows (relT K.S τ) ys news ∧ Src P w τ.cells v ys.length news := by
  unfold copySrcK at hk
  split at hk
  · split at hk
    · rename_i bs
      cases (hx : v = _)
      obtain ⟨e, hk⟩ := castD_prop hk
      cases sl_inj e
      refine ⟨bs, bs.map byteV, hk, relRows_of_bytes bs, ?_, by simp [strV], fun w' _ => ⟨?_, fun k hk => ?_⟩⟩
      · rw [List.length_map]; exact (Nat.mul_one _).symm
      · simp [Builtin.lenOf, strV, ByteArray.size]; rfl
      · simp only [Builtin.firstCells, strV, Sem.run_pure, Ty.cells, Nat.mul_one]
        congr 1
        apply Array.ext'
        apply List.ext_getElem?
        intro i
        simp [byteV]
        rfl
    · exact hk.elim
  · obtain ⟨ys, mid, hq, h1, h2⟩ := rowsOf_sound hR hx hk
    have hl := relRows_len h2
    refine ⟨ys, mid, hq, h2, hl, ?_, fun w' hw => ⟨?_, fun k hk => ?_⟩⟩
    · obtain ⟨a, c, rfl, _⟩ := h1; simp
    · obtain ⟨a, c, rfl, _⟩ := h1; simp [Builtin.lenOf]
    · exact firsts_sound (sliceIs_heap h1 hw) hl hk

/-- What is appended. -/
def AppSrc (P : Program) (w : World) (e : TypeId) (sz by_ : Nat) (xd : TypeDesc) (v : Value) (n : Nat) (news : List Value) : Prop :=
  news.length = n * sz ∧ ((∃ k j l z, xd = .int k ∧ v = .int j l ∧ 0 ≤ l ∧ l * by_ ≤ 281474976710656 ∧ l ≤ 281474976710656 ∧ n = l.toNat ∧ (∀ w, (zeroValue e).run P w = .ok z w) ∧ z.cells.size = sz ∧ news = (List.replicate n z.cells.toList).flatten) ∨
    ((∀ k, xd ≠ .int k) ∧ Src P w sz v n news))

theorem appSrc_sound {e : TypeId} {τ : Ty} {by_ : Nat} {xd : TypeDesc} {x : AV} {v : Value} {Q : List τ.den → Prop} (ht : tyT P e = some τ) (hR : R K h w) (hx : rel K x v) (hk : appSrcK Alg.prop h τ by_ xd x Q) :
    ∃ ys news, Q ys ∧ relRows (relT K.S τ) ys news ∧ AppSrc P w e τ.cells by_ xd v ys.length news := by
  unfold appSrcK at hk
  split at hk
  · rename_i k
    obtain ⟨j, l, rfl, hk⟩ := int_of_rel hx hk
    obtain ⟨⟨h0, h1, h2⟩, hk⟩ := br_yes hk
    obtain ⟨z, hz, hr, hs⟩ := tyT_sound (K := K) ht
    have hzl : z.cells.size = τ.cells := by have := relT_len hr; rwa [Array.length_toList] at this
    have hrows := relRows_replicate hr l.toNat
    exact ⟨_, _, hk, hrows, relRows_len hrows, .inl ⟨k, j, l, z, rfl, rfl, h0, h1, h2, by simp, hz, hzl, by simp⟩⟩
  · rename_i hne
    obtain ⟨ys, news, hq, h1, h2⟩ := copySrc_sound (P := P) hR hx hk
    exact ⟨ys, news, hq, h1, h2.1, .inr ⟨fun k e => hne k e, h2⟩⟩

theorem grow_le (n : Nat) : ∀ (r c : Nat), c ≤ n + (n + 768) / 4 → Builtin.growBy n r c ≤ n + (n + 768) / 4
  | 0, c, h => h
  | r + 1, c, h => by
    unfold Builtin.growBy
    split
    · exact h
    · exact grow_le n r _ (by omega)

theorem nextcap_le {n o : Nat} (h : o < n) : Builtin.nextslicecap n o ≤ 3 * n + 1024 := by
  unfold Builtin.nextslicecap
  split
  · omega
  · split
    · omega
    · have := grow_le n 4 o (by omega)
      omega

theorem run_choose_cap (need old : Nat) (e : TypeId) : (choose (.appendCap need old e)).run P w = .ok (need + w.tape w.drawn (.appendCap need old e) % (2 ^ 63 - need)) { w with drawn := w.drawn + 1 } := by
  simp [choose, Sem.run, Question.forced, Question.cut]

theorem noughtCells {z : Value} (n : Nat) : (Builtin.zeroCells z.cells n).toList = (List.replicate n z.cells.toList).flatten := by
  unfold Builtin.zeroCells
  rw [← noughts]; simp

/-- Does it fit? -/
theorem append_fits {ts : Array TypeId} {ty t xt e : TypeId} {as : Array Value} {base : Option Addr} {sLen sCap n sz : Nat} {i : TypeInfo} {vx : Value} {xd : TypeDesc} {news : List Value} {w1 : World}
    (ht0 : ts[0]? = some t) (ht1 : ts[1]? = some xt) (ha0 : as[0]? = some (.slice base sLen sCap)) (ha1 : as[1]? = some vx) (hu : P.underlying t = some (.slice e)) (hux : P.underlying xt = some xd) (hi : P.info? e = some i) (hs : sizeT P e = some sz)
    (hsrc : AppSrc P w e sz i.bytes xd vx n news) (hfit : sLen + n ≤ sCap) (hst : match base with | some a => (storeCells (a.add (sLen * sz)) news 0).run P w = .ok () w1 | none => w1 = w) :
    (Builtin.append_ ts ty as).run P w = .ok (.slice base (sLen + n) sCap) w1 := by
  obtain ⟨hlen, ⟨k, j, l, z, rfl, rfl, h0, h1, h2, rfl, hz, hzs, rfl⟩ | ⟨hne, hl2, hnint, hrun⟩⟩ := hsrc
  · have w1' := wrap64 h0 h2
    have g1 : ¬ l < 0 := by omega
    have g2 : ¬ 281474976710656 < l * (i.bytes : Int) := by omega
    by_cases hn : l.toNat * sz = 0
    · have hnil : (List.replicate l.toNat z.cells.toList).flatten = [] := by apply List.eq_nil_of_length_eq_zero; rw [hlen]; exact hn
      rw [hnil] at hst
      cases base with
      | none => 
        cases (hst : w1 = w)
        simp [Builtin.append_, ht0, ht1, ha0, ha1, run_underlying hu, run_underlying hux, run_sizeT hs, asInt, asIntOf, w1', g1, g2, run_typeInfo' hi, hfit, hn]
      | some a =>
        simp only at hst
        simp [Builtin.append_, ht0, ht1, ha0, ha1, run_underlying hu, run_underlying hux, run_sizeT hs, asInt, asIntOf, w1', g1, g2, run_typeInfo' hi, hfit, hn, hst]
    · have hzc := noughtCells (z := z) l.toNat
      rw [← hzc] at hst
      cases base with
      | none =>
        cases (hst : w1 = w)
        simp [Builtin.append_, ht0, ht1, ha0, ha1, run_underlying hu, run_underlying hux, run_sizeT hs, asInt, asIntOf, w1', g1, g2, run_typeInfo' hi, hfit, hn, hz]
      | some a =>
        simp only at hst
        simp [Builtin.append_, ht0, ht1, ha0, ha1, run_underlying hu, run_underlying hux, run_sizeT hs, asInt, asIntOf, w1', g1, g2, run_typeInfo' hi, hfit, hn, hz, hst]
  · obtain ⟨hl, hf⟩ := hrun w rfl
    have hf := hf n (Nat.le_refl _)
    rw [List.take_of_length_le (by omega)] at hf
    have hz : (match xd with | .int _ => true | _ => false) = false := by cases xd <;> first | exact (hne _ rfl).elim | rfl
    cases base with
    | none =>
      cases (hst : w1 = w)
      simp [Builtin.append_, ht0, ht1, ha0, ha1, run_underlying hu, run_underlying hux, run_sizeT hs, hz, hl, hf, hfit]
    | some a =>
      simp only at hst
      simp [Builtin.append_, ht0, ht1, ha0, ha1, run_underlying hu, run_underlying hux, run_sizeT hs, hz, hl, hf, hfit, hst]

/-- Does it not fit? -/
theorem append_grows {ts : Array TypeId} {ty t xt e : TypeId} {as : Array Value} {base : Option Addr} {sLen sCap n sz : Nat} {i : TypeInfo} {vx : Value} {xd : TypeDesc} {news olds : List Value} {z : Value}
    (ht0 : ts[0]? = some t) (ht1 : ts[1]? = some xt) (ha0 : as[0]? = some (.slice base sLen sCap)) (ha1 : as[1]? = some vx) (hu : P.underlying t = some (.slice e)) (hux : P.underlying xt = some xd) (hi : P.info? e = some i) (hs : sizeT P e = some sz)
    (hz : ∀ w, (zeroValue e).run P w = .ok z w) (hzs : z.cells.size = sz)
    (hsrc : AppSrc P w e sz i.bytes xd vx n news) (hfit : sCap < sLen + n) (hroom : roomOk (sLen + n) i.bytes = true) (hold : ∀ w', w'.heap = w.heap → (Builtin.firstCells sz sLen (.slice base sLen sCap)).run P w' = .ok olds.toArray w') (hol : olds.length = sLen * sz) :
    ∃ c C, sLen + n ≤ c ∧ (∃ rest, C.toList = (olds ++ news) ++ rest) ∧ C.size = c * sz ∧ (Builtin.append_ ts ty as).run P w = (do pure (.slice (some (← newRow e C)) (sLen + n) c) : Sem Value).run P { w with drawn := w.drawn + 1 } := by
  simp only [roomOk, decide_eq_true_eq] at hroom
  obtain ⟨hr1, hr2⟩ := hroom
  have hcap := nextcap_le hfit
  have g4 : ¬ 281474976710656 < Builtin.nextslicecap (sLen + n) sCap * i.bytes := by
    have := Nat.mul_le_mul_right i.bytes hcap
    omega
  have g5 : ¬ sLen + n ≤ sCap := by omega
  have hold' : (Builtin.firstCells sz sLen (.slice base sLen sCap)).run P w.drew = .ok olds.toArray w.drew := hold w.drew rfl
  let r := w.tape w.drawn (.appendCap (sLen + n) sCap e) % (2 ^ 63 - (sLen + n))
  refine ⟨sLen + n + r, olds.toArray ++ news.toArray ++ Builtin.zeroCells z.cells (sLen + n + r - (sLen + n)), Nat.le_add_right _ _, ⟨(Builtin.zeroCells z.cells (sLen + n + r - (sLen + n))).toList, by simp⟩, ?_, ?_⟩
  · have hnl := hsrc.1
    simp only [Builtin.zeroCells, Array.size_append, List.size_toArray, List.length_append, hol, hnl, Array.length_toList, Array.size_map, Array.size_range, hzs, Nat.add_mul, Nat.add_sub_cancel_left]
  show _ = (do pure (.slice (some (← newRow e (olds.toArray ++ news.toArray ++ Builtin.zeroCells z.cells (sLen + n + w.tape w.drawn (.appendCap (sLen + n) sCap e) % (2 ^ 63 - (sLen + n)) - (sLen + n))))) (sLen + n) (sLen + n + w.tape w.drawn (.appendCap (sLen + n) sCap e) % (2 ^ 63 - (sLen + n)))) : Sem Value).run P { w with drawn := w.drawn + 1 }
  obtain ⟨hlen, ⟨k, j, l, z', rfl, rfl, h0, h1, h2, rfl, hz', hzs', rfl⟩ | ⟨hne, hl2, hnint, hrun⟩⟩ := hsrc
  · have hzz : z' = z := by
      have a := hz w; rw [hz' w] at a; cases a; rfl
    subst hzz
    have w1' := wrap64 h0 h2
    have g1 : ¬ l < 0 := by omega
    have g2 : ¬ 281474976710656 < l * (i.bytes : Int) := by omega
    have g6 : ¬ 9223372036854775807 < (sLen : Int) + max l 0 := by omega
    by_cases hn : l.toNat * sz = 0
    · have hnil : (List.replicate l.toNat z'.cells.toList).flatten = [] := by apply List.eq_nil_of_length_eq_zero; rw [hlen]; exact hn
      rw [hnil]
      simp [Builtin.append_, ht0, ht1, ha0, ha1, run_underlying hu, run_underlying hux, run_sizeT hs, asInt, asIntOf, w1', g1, g2, run_typeInfo' hi, g5, g6, g4, hn, hz, Question.forced, Question.cut, hold']
    · have hzc := noughtCells (z := z') l.toNat
      rw [← hzc]
      simp [Builtin.append_, ht0, ht1, ha0, ha1, run_underlying hu, run_underlying hux, run_sizeT hs, asInt, asIntOf, w1', g1, g2, run_typeInfo' hi, g5, g6, g4, hn, hz, Question.forced, Question.cut, hold']
  · obtain ⟨hl, hf⟩ := hrun w.drew rfl
    have g6 : ¬ 9223372036854775807 < (sLen : Int) + (n : Int) := by omega
    obtain ⟨hl0, _⟩ := hrun w rfl
    have hf := hf n (Nat.le_refl _)
    rw [List.take_of_length_le (by omega)] at hf
    rw [Array.append_assoc]
    simp [Builtin.append_, ht0, ht1, ha0, ha1, run_underlying hu, run_underlying hux, run_sizeT hs, hl0, hf, run_typeInfo' hi, g5, g6, g4, hz, Question.forced, Question.cut, hold']

end Go.Tw

/- Appends. -/
namespace Go.Tw
open Go Go.MapKept

variable {P : Program} {K K' : KW} {h : Heap} {w w' : World}

/-- A new thing without a block of its own. -/
def virtLoc (sz : Nat) : Loc := ⟨0, 0, 0, 0, sz, true⟩

theorem Like.refl (w : World) : Like w w := ⟨rfl, rfl, rfl, rfl⟩

theorem R.pushVirt (hR : R K h w) (τ : Ty) : R (K.new h.next (virtLoc τ.cells)) (h.push (.rows τ [])) w ∧ Ext K h w (K.new h.next (virtLoc τ.cells)) (h.push (.rows τ [])) w := by
  have hle : K.le (K.new h.next (virtLoc τ.cells)) := KW.le_new hR.fresh
  refine ⟨⟨?_, ?_, ?_, ?_, ?_, ?_⟩, ⟨hle, Nat.le_refl _, fun _ _ _ => rfl, ?_, by simp, rfl, rfl, rfl, fun _ _ _ => rfl⟩⟩
  · intro id b hg
    rw [Heap.get_push] at hg
    split at hg
    · rename_i e
      cases hg
      exact ⟨_, by rw [e]; exact KW.new_self, rfl, rfl, .inl ⟨rfl, rfl⟩⟩
    · obtain ⟨L', hL', hb'⟩ := hR.live _ _ hg
      exact ⟨L', hle.β _ _ hL', blkRel_frame hle hb' (fun _ => rfl) (fun _ _ _ _ _ _ _ _ _ _ _ => rfl)⟩
  · intro id id' x y L1 L2 h1 h2 k1 k2 v1 v2 e
    rw [Heap.get_push] at h1 h2
    rcases KW.new_of k1 with ⟨e1, el1⟩ | k1
    · subst el1; cases v1
    rcases KW.new_of k2 with ⟨e2, el2⟩ | k2
    · subst el2; cases v2
    have n1 : id ≠ h.next := fun e => by rw [e, hR.fresh] at k1; cases k1
    have n2 : id' ≠ h.next := fun e => by rw [e, hR.fresh] at k2; cases k2
    rw [if_neg n1] at h1
    rw [if_neg n2] at h2
    exact hR.inj _ _ _ _ _ _ h1 h2 k1 k2 v1 v2 e
  · intro id L' hL'
    rw [Heap.next_push]
    rcases KW.new_of hL' with ⟨e, _⟩ | hL'
    · omega
    · have := hR.dom _ _ hL'; omega
  · exact hR.stab
  · intro id x L' hg hL' hv'
    rcases KW.new_of hL' with ⟨e, el⟩ | hL'
    · subst el; cases hv'
    · have n1 : id ≠ h.next := fun e => by rw [e, hR.fresh] at hL'; cases hL'
      rw [Heap.get_push, if_neg n1] at hg
      exact hR.sep _ _ _ hg hL' hv'
  · intro m ka va κ τ' es id left last hg
    rw [Heap.get_push] at hg
    split at hg
    · cases hg
    · have := hR.iters _ _ _ _ _ _ _ _ _ hg
      rw [Heap.get_push, if_neg]
      · exact this
      · rintro rfl
        obtain ⟨L1, hL1, _⟩ := hR.live _ _ this
        rw [hR.fresh] at hL1; cases hL1
  · rintro b _ ⟨id, x, L', hg, hL', hv', rfl⟩
    rcases KW.new_of hL' with ⟨e, el⟩ | hL'
    · subst el; cases hv'
    · have n1 : id ≠ h.next := fun e => by rw [e, hR.fresh] at hL'; cases hL'
      rw [Heap.get_push, if_neg n1] at hg
      exact ⟨id, x, L', hg, hL', hv', rfl⟩

/-- A new block that nobody owns. -/
theorem R.alloc (hR : R K h w) (o : Obj) : R K h { w with heap := w.heap.push o } ∧ Ext K h w K h { w with heap := w.heap.push o } := by
  have old : ∀ b, b < w.heap.size → (w.heap.push o)[b]? = w.heap[b]? := fun b hb => by simp [Array.getElem?_push, Nat.ne_of_lt hb]
  refine ⟨⟨fun k x hk => ?_, hR.inj, hR.dom, fun b C hs => ?_, hR.sep, hR.iters⟩, ⟨.refl K, by simp, fun b hb _ => old b hb, fun _ _ hb => hb, Nat.le_refl _, rfl, rfl, rfl, fun _ _ _ => rfl⟩⟩
  · obtain ⟨L, hL, hb⟩ := hR.live k x hk
    refine ⟨L, hL, blkRel_frame (.refl K) hb (fun hv => old _ (blkRel_bound hb hv)) ?_⟩
    rintro ka va κ τ es id' left last rfl L2 hL2
    exact old _ (iter_bound hb hL2)
  · obtain ⟨T, fr, hb⟩ := hR.stab _ _ hs
    exact ⟨T, fr, (old _ (hR.stab_bound hs)).trans hb⟩

theorem isCons_nil {α : Type} {ys : List α} (h : isCons ys = false) : ys = [] := by cases ys <;> first | rfl | cases h

/-- What is needed of an append's types. -/
structure AppTy (P : Program) (ts : Array TypeId) (t xt e : TypeId) (τ : Ty) (i : TypeInfo) (xd : TypeDesc) : Prop where
  h0 : ts[0]? = some t
  h1 : ts[1]? = some xt
  u : P.underlying t = some (.slice e)
  ux : P.underlying xt = some xd
  inf : P.info? e = some i
  ty : tyT P e = some τ

/-- A slice that grows into a new block. -/
theorem grow_sound {ts : Array TypeId} {ty t xt e : TypeId} {as : Array Value} {τ : Ty} {i : TypeInfo} {xd : TypeDesc} (hT : AppTy P ts t xt e τ i xd) {base : Option Addr} {sLen sCap : Nat} {vx : Value} {mine ys : List τ.den} {oldm news : List Value} {Q : AV → Heap → Prop} {nn : Bool}
    (ha0 : as[0]? = some (.slice base sLen sCap)) (ha1 : as[1]? = some vx) {h' : Heap} (hR : R K h w) (hR' : R K h' w) (hE' : Ext K h w K h' w) (hm : sliceIs w (.slice base sLen sCap) mine.length oldm) (hmr : relRows (relT K.S τ) mine oldm) (hlen : mine.length = sLen)
    (hnr : relRows (relT K.S τ) ys news) (hsrc : AppSrc P w e τ.cells i.bytes xd vx ys.length news) (hfit : sCap < sLen + ys.length) (hroom : roomOk (sLen + ys.length) i.bytes = true)
    (hk : h'.newK (.rows τ (mine ++ ys)) fun id h => Q (.slr id τ.cells 0 (sLen + ys.length) true (sLen + ys.length) false nn) h) : Acts P K h w (Builtin.append_ ts ty as) Q := by
  obtain ⟨z, hz, hzr, hs⟩ := tyT_sound (K := K) hT.ty
  have hzl : z.cells.size = τ.cells := by have := relT_len hzr; rwa [Array.length_toList] at this
  have hol : oldm.length = mine.length * τ.cells := relRows_len hmr
  have hold : ∀ w', w'.heap = w.heap → (Builtin.firstCells τ.cells sLen (.slice base sLen sCap)).run P w' = .ok oldm.toArray w' := fun w' hw => by
    have := firsts_sound (P := P) (sliceIs_heap hm hw) hol (Nat.le_of_eq hlen.symm)
    rwa [List.take_of_length_le (by rw [hol, hlen]; exact Nat.le_refl _)] at this
  obtain ⟨c, C, hc, ⟨rest, hC⟩, hCs, hrun⟩ := append_grows (ty := ty) hT.h0 hT.h1 ha0 ha1 hT.u hT.ux hT.inf hs hz hzl hsrc hfit hroom hold (by rw [hol, hlen])
  obtain ⟨d1, d2⟩ := Ext.drew hR' (w.drawn + 1)
  have hl2 : (mine ++ ys).length = sLen + ys.length := by rw [List.length_append, hlen]
  have hk' : h'.newK (.rows τ (mine ++ ys)) fun id h => Q (.slr id τ.cells 0 (mine ++ ys).length true (mine ++ ys).length false nn) h := by rw [hl2]; exact hk
  obtain ⟨v, K2, h2, w2, av, r1, r2, r3, r4, r5⟩ := new_rows (P := P) (T := e) (C := C) (c := c) (cap := (mine ++ ys).length) (ex := false) (nn := nn) d1 (relRows_append.2 ⟨_, _, rfl, hmr, hnr⟩) hC (by rw [hl2]; exact hc) (by rw [hl2]; exact hc) (fun h => by cases h) (by rw [hCs]; exact Nat.le_refl _) hk'
  refine ⟨v, K2, h2, w2, av, ?_, r2, r3, (hE'.trans d2).trans r4, r5⟩
  rw [hrun, ← hl2]; exact r1

/-- A slice's rows. -/
theorem slr_rows (hR : R K h w) {τ : Ty} {id sz off len : Nat} {wh : Bool} {cap : Nat} {ex nn : Bool} {v : Value} (hx : rel K (.slr id sz off len wh cap ex nn) v) {xs : List τ.den} (hsz : sz = τ.cells) (hg : h.get id = some (.rows τ xs)) :
    ∃ oldm, sliceIs w v ((xs.drop off).take len).length oldm ∧ relRows (relT K.S τ) ((xs.drop off).take len) oldm ∧ ((xs.drop off).take len).length = len ∧ (wh = true → xs = (xs.drop off).take len) := by
  have hx' := hx
  obtain ⟨L, a, c, hL, rfl, hLz, hlen, hc, hcap, hex, hwh, hr⟩ := hx
  obtain ⟨L', hL', hz, hn, hb⟩ := hR.live _ _ hg
  cases hL.symm.trans hL'
  have hl : ((xs.drop off).take len).length = len := by simp; omega
  have hw : wh = true → xs = (xs.drop off).take len := fun h => by
    obtain ⟨rfl, rfl⟩ := hwh h
    rw [List.drop_zero, ← hn, List.take_length]
  have hk : rowsOf Alg.prop τ h (.slr id sz off len wh cap ex nn) fun ys => ys = (xs.drop off).take len := by
    simp only [rowsOf, if_pos hsz, hg, castD]
    rw [dif_pos trivial]
    cases wh
    · trivial
    · exact hw rfl
  obtain ⟨ys, mid, rfl, h1, h2⟩ := rowsOf_sound hR hx' hk
  exact ⟨mid, h1, h2, hl, hw⟩

theorem relRows_splice {S : Nat → Option (Array Value)} {τ : Ty} {xs ys : List τ.den} {mid news : List Value} (hx : relRows (relT S τ) xs mid) (hy : relRows (relT S τ) ys news) (i : Nat) (hi : i + ys.length ≤ xs.length) :
    relRows (relT S τ) (xs.take i ++ ys ++ xs.drop (i + ys.length)) (mid.take (i * τ.cells) ++ (news ++ mid.drop (i * τ.cells + news.length))) := by
  obtain ⟨us, ws, e1, l1, r1, r2⟩ := relRows_cut hx i
  obtain ⟨us2, ws2, e2, l2, r3, r4⟩ := relRows_cut r2 ys.length
  have hnl := relRows_len hy
  have hul : us.length = i * τ.cells := by rw [l1, List.length_take, Nat.min_eq_left (by omega)]
  have hul2 : us2.length = news.length := by rw [l2, hnl, List.length_take, List.length_drop, Nat.min_eq_left (by omega)]
  have t1 : mid.take (i * τ.cells) = us := by rw [e1]; exact List.take_left' hul
  have t2 : mid.drop (i * τ.cells + news.length) = ws2 := by rw [e1, e2, ← List.append_assoc]; exact List.drop_left' (by simp; omega)
  rw [t1, t2, List.append_assoc]
  rw [List.drop_drop] at r4
  exact relRows_append.2 ⟨_, _, rfl, r1, relRows_append.2 ⟨_, _, rfl, hy, r4⟩⟩

/-- Elements laid into a slice's own block. -/
theorem inPlace_sound {ts : Array TypeId} {ty t xt e : TypeId} {as : Array Value} {τ : Ty} {i : TypeInfo} {xd : TypeDesc} (hT : AppTy P ts t xt e τ i xd) {vx : Value} {xs ys : List τ.den} {news : List Value} {Q : AV → Heap → Prop} {cl : Bool}
    {id off len : Nat} {wh : Bool} {cap : Nat} {ex nn : Bool} {vs : Value} (hR : R K h w) (hx : rel K (.slr id τ.cells off len wh cap ex nn) vs) (hg : h.get id = some (.rows τ xs)) (ha0 : as[0]? = some vs) (ha1 : as[1]? = some vx)
    (hnr : relRows (relT K.S τ) ys news) (hsrc : AppSrc P w e τ.cells i.bytes xd vx ys.length news)
    (hk : inPlaceK Alg.prop cl h id τ off len cap xs ys Q (.slr id τ.cells off (len + ys.length) wh cap ex nn)) : Acts P K h w (Builtin.append_ ts ty as) Q := by
  unfold inPlaceK at hk
  obtain ⟨⟨h1, h2⟩, hk⟩ := br_yes hk
  rw [fL_eq, Heap.setK_eq] at hk
  obtain ⟨_, _, _, hs⟩ := tyT_sound (K := K) hT.ty
  obtain ⟨L, a, c, hL, rfl, hLz, hlen, hc, hcap, hex, hwh, hr⟩ := hx
  obtain ⟨L', hL', hz, hn, hb⟩ := hR.live _ _ hg
  cases hL.symm.trans hL'
  have hnl := relRows_len hnr
  have hrel : ∀ K2 : KW, K2.β id = some L → rel K2 (.slr id τ.cells off (len + ys.length) wh cap ex nn) (.slice a (len + ys.length) c) := fun K2 hK2 => by
    refine ⟨L, a, c, hK2, rfl, hLz, by omega, by omega, hcap, hex, fun hh => ?_, hr⟩
    obtain ⟨h3, h4⟩ := hwh hh
    exact ⟨h3, by omega⟩
  rcases Nat.eq_zero_or_pos ys.length with h0 | h0
  · have hy : ys = [] := List.length_eq_zero_iff.1 h0
    subst hy
    have hnews : news = [] := by cases (hnr : news = []); rfl
    subst hnews
    have hzs : xs.take (off + len) ++ [] ++ xs.drop (off + len + ([] : List τ.den).length) = xs := by simp
    rw [hzs] at hk
    obtain ⟨q1, q2⟩ := hR.setV (blk := .rows τ xs) hg hL ⟨hz, hn, hb⟩ (by simp) (by simp)
    refine ⟨_, K, _, w, _, ?_, hrel K hL, q1, q2, hk⟩
    refine append_fits hT.h0 hT.h1 ha0 ha1 hT.u hT.ux hT.inf hs hsrc (by simpa using hc) ?_
    cases a <;> simp [storeCells]
  · rcases hr with ⟨_, _, rfl⟩ | ⟨ad, rfl, hsp, hr⟩
    · omega
    rcases hr with rfl | ⟨hv, rfl, hfit⟩
    · omega
    rcases hb with ⟨hv', _⟩ | ⟨_, mid, hcell, hrows⟩
    · rw [hv] at hv'; cases hv'
    have hml := relRows_len hrows
    have hbase : L.base + (off + len) * τ.cells + news.length ≤ L.size := by
      have : (off + (len + ys.length)) * τ.cells ≤ (off + c) * τ.cells := Nat.mul_le_mul_right _ (by omega)
      rw [hnl]
      rw [← Nat.add_assoc, Nat.add_mul (off + len)] at this
      omega
    obtain ⟨o, hrun, hc'⟩ := write_ok (P := P) (k := (off + len) * τ.cells) (vs := news) hcell (by rw [hml]; exact Nat.mul_le_mul_right _ (by omega)) hbase (relRows_one hnr)
    have hsp := relRows_splice hrows hnr (off + len) h2
    obtain ⟨q1, q2⟩ := hR.setB (blk := .rows τ (xs.take (off + len) ++ ys ++ xs.drop (off + len + ys.length))) hg hL hv ⟨hz, by rw [← hn]; simp; omega, .inr ⟨hv, _, hc', hsp⟩⟩ (by simp) (by simp)
    refine ⟨_, K, _, _, _, ?_, hrel K hL, q1, q2, hk⟩
    refine append_fits hT.h0 hT.h1 ha0 ha1 hT.u hT.ux hT.inf hs hsrc (by omega) ?_
    simp only [add_none]
    rw [Nat.add_mul, ← Nat.add_assoc] at hrun
    exact hrun

/-- A slice that ends where its block ends. -/
theorem behind_sound {ts : Array TypeId} {ty t xt e : TypeId} {as : Array Value} {τ : Ty} {i : TypeInfo} {xd : TypeDesc} (hT : AppTy P ts t xt e τ i xd) {vx : Value} {xs ys : List τ.den} {news : List Value} {Q : AV → Heap → Prop}
    {id off len : Nat} {wh : Bool} {cap : Nat} {ex nn : Bool} {vs : Value} (hR : R K h w) (hx : rel K (.slr id τ.cells off len wh cap ex nn) vs) (hg : h.get id = some (.rows τ xs)) (ha0 : as[0]? = some vs) (ha1 : as[1]? = some vx)
    (hnr : relRows (relT K.S τ) ys news) (hsrc : AppSrc P w e τ.cells i.bytes xd vx ys.length news) (hroom : roomOk (len + ys.length) i.bytes = true) (hend : off + len = xs.length)
    (hk : (h.drop id).newK (.rows τ ((xs.drop off).take len ++ ys)) fun id h => Q (.slr id τ.cells 0 (len + ys.length) true (len + ys.length) false (nn || isCons ys)) h) : Acts P K h w (Builtin.append_ ts ty as) Q := by
  obtain ⟨oldm, m1, m2, m3, _⟩ := slr_rows hR hx rfl hg
  have hx' := hx
  obtain ⟨L, a, c, hL, rfl, hLz, hlen, hc, hcap, hex, hwh, hr⟩ := hx
  rcases Nat.lt_or_ge c (len + ys.length) with hgrow | hfit
  · obtain ⟨d1, d2⟩ := hR.drop hg
    exact grow_sound hT ha0 ha1 hR d1 d2 m1 m2 m3 hnr hsrc hgrow hroom hk
  · rw [Heap.newK_eq, Heap.next_drop] at hk
    obtain ⟨_, _, _, hs⟩ := tyT_sound (K := K) hT.ty
    obtain ⟨L', hL', hz, hn, hb⟩ := hR.live _ _ hg
    cases hL.symm.trans hL'
    have hnl := relRows_len hnr
    rcases Nat.eq_zero_or_pos c with h0 | h0
    · subst h0
      have hy : ys = [] := List.length_eq_zero_iff.1 (by omega)
      subst hy
      have hl0 : len = 0 := by omega
      subst hl0
      have hnews : news = [] := by cases (hnr : news = []); rfl
      subst hnews
      obtain ⟨q1, q2⟩ := hR.renew (L' := virtLoc τ.cells) (blk := .rows τ []) hg hL (by simp [virtLoc]) (Like.refl w) (fun _ _ => rfl) ⟨rfl, rfl, .inl ⟨rfl, rfl⟩⟩ (by simp)
      refine ⟨.slice a 0 0, _, _, w, .slr h.next τ.cells 0 0 true 0 false nn, ?_, ?_, q1, q2, by simpa [isCons] using hk⟩
      · have := append_fits (ty := ty) (w1 := w) hT.h0 hT.h1 ha0 ha1 hT.u hT.ux hT.inf hs hsrc (by simp) (by cases a <;> simp [storeCells])
        simpa using this
      · refine ⟨_, a, 0, KW.new_self, rfl, rfl, by simp [virtLoc], Nat.le_refl _, Nat.le_refl _, (fun h => by cases h), fun _ => ⟨rfl, rfl⟩, ?_⟩
        rcases hr with hr | ⟨ad, e1, e2, _⟩
        · exact .inl hr
        · exact .inr ⟨ad, e1, e2, .inl rfl⟩
    · rcases hr with ⟨_, _, rfl⟩ | ⟨ad, rfl, hsp, hr⟩
      · omega
      rcases hr with rfl | ⟨hv, rfl, hsize⟩
      · omega
      rcases hb with ⟨hv', _⟩ | ⟨_, mid, hcell, hrows⟩
      · rw [hv] at hv'; cases hv'
      have hml := relRows_len hrows
      have hbase : L.base + mid.length + news.length ≤ L.size := by
        have : (off + (len + ys.length)) * τ.cells ≤ (off + c) * τ.cells := Nat.mul_le_mul_right _ (by omega)
        rw [hnl, hml, ← hend]
        rw [← Nat.add_assoc, Nat.add_mul (off + len)] at this
        omega
      obtain ⟨o, hrun, hc'⟩ := write_ok (P := P) (k := mid.length) (vs := news) hcell (Nat.le_refl _) hbase (relRows_one hnr)
      have e1 : mid.take mid.length ++ (news ++ mid.drop (mid.length + news.length)) = mid ++ news := by
        rw [List.take_length, List.drop_eq_nil_iff.2 (by omega), List.append_nil]
      rw [e1] at hc'
      obtain ⟨us, ws, e2, l2, r2, r3⟩ := relRows_cut hrows off
      have hul : us.length = off * τ.cells := by rw [l2, List.length_take, Nat.min_eq_left (by omega)]
      rw [e2, List.append_assoc] at hc'
      let L2 : Loc := ⟨L.b, L.base + off * τ.cells, L.size, len + ys.length, τ.cells, false⟩
      have hc2 : cellsAt (putB w L.b o) L2 (ws ++ news) := cellsAt_shift hc' L2 rfl (by rw [hul]) rfl
      have hmine : (xs.drop off).take len = xs.drop off := List.take_of_length_le (by simp; omega)
      rw [hmine] at hk
      have hle : K.le (K.new h.next L2) := KW.le_new hR.fresh
      have hrr : relRows (relT (K.new h.next L2).S τ) (xs.drop off ++ ys) (ws ++ news) := relRows_append.2 ⟨_, _, rfl, r3, hnr⟩
      obtain ⟨q1, q2⟩ := hR.renew (L' := L2) (blk := .rows τ (xs.drop off ++ ys)) hg hL (fun _ => ⟨hv, rfl⟩) (putB_like w L.b o) (fun b hb => by
        rcases hb with hb | hb
        · exact putB_other hb
        · rw [hv] at hb; cases hb) ⟨rfl, by simp [L2]; omega, .inr ⟨rfl, _, hc2, hrr⟩⟩ (by simp)
      refine ⟨.slice (some ⟨L.b, L.base + off * τ.cells, none⟩) (len + ys.length) c, K.new h.next L2, _, putB w L.b o, .slr h.next τ.cells 0 (len + ys.length) true (len + ys.length) false (nn || isCons ys), ?_, ⟨L2, _, c, KW.new_self, rfl, rfl, by simp [L2], hfit, hfit, (fun h => by cases h), fun _ => ⟨rfl, rfl⟩, .inr ⟨⟨L.b, L.base + off * τ.cells, none⟩, rfl, rfl, .inr ⟨rfl, by simp [L2], ?_⟩⟩⟩, q1, q2, hk⟩
      · refine append_fits hT.h0 hT.h1 ha0 ha1 hT.u hT.ux hT.inf hs hsrc hfit ?_
        simp only [add_none]
        rw [hml, ← hend, Nat.add_mul, ← Nat.add_assoc] at hrun
        exact hrun
      · show L.base + off * τ.cells + (0 + c) * τ.cells ≤ L.size
        rw [Nat.add_mul] at hsize
        rw [Nat.zero_add]; omega

end Go.Tw

/- All operations that do something. -/
namespace Go.Tw
open Go Go.MapKept

variable {P : Program} {K K' : KW} {h : Heap} {w w' : World}

theorem bytesT_info {t : TypeId} {b : Nat} (h : bytesT P t = some b) : ∃ i, P.info? t = some i ∧ i.bytes = b := by
  unfold bytesT at h
  split at h
  · rename_i i hi; exact ⟨i, hi, by simpa using h⟩
  · cases h

theorem append_sound {cl : Bool} {ts : Array TypeId} {ty t xt : TypeId} {as : Array Value} {s x : AV} {vs vx : Value} {Q : AV → Heap → Prop} (h0 : ts[0]? = some t) (h1 : ts[1]? = some xt) (ha0 : as[0]? = some vs) (ha1 : as[1]? = some vx)
    (hR : R K h w) (hs : rel K s vs) (hx : rel K x vx) (hk : appendK Alg.prop P cl h t xt s x Q) : Acts P K h w (Builtin.append_ ts ty as) Q := by
  unfold appendK at hk
  split at hk
  rotate_left
  · exact hk.elim
  rename_i e hu
  split at hk
  rotate_left
  · exact hk.elim
  rename_i τ by_ xd hτ hby hux
  obtain ⟨i, hi, rfl⟩ := bytesT_info hby
  have hq := appSrc_sound hτ hR hx hk
  clear hk
  obtain ⟨ys, news, hk, hnr, hsrc⟩ := hq
  have hT : AppTy P ts t xt e τ i xd := ⟨h0, h1, hu, hux, hi, hτ⟩
  obtain ⟨_, _, _, hsz⟩ := tyT_sound (K := K) hτ
  split at hk
  · cases (hs : vs = _)
    obtain ⟨hroom, hk⟩ := brb_yes hk
    rw [fL_eq] at hk
    cases ys with
    | nil =>
      have hnews : news = [] := by cases (hnr : news = []); rfl
      subst hnews
      rw [Heap.newK_eq] at hk
      obtain ⟨q1, q2⟩ := hR.pushVirt τ
      refine ⟨.slice none 0 0, _, _, w, .slr h.next τ.cells 0 0 true 0 false false, ?_, ⟨_, none, 0, KW.new_self, rfl, rfl, by simp [virtLoc], Nat.le_refl _, Nat.le_refl _, (fun h => by cases h), fun _ => ⟨rfl, rfl⟩, .inl ⟨rfl, rfl, rfl⟩⟩, q1, q2, hk⟩
      exact append_fits (ty := ty) (w1 := w) h0 h1 ha0 ha1 hu hux hi hsz hsrc (by simp) rfl
    | cons y ys =>
      refine grow_sound hT ha0 ha1 (mine := []) (oldm := []) hR hR (.refl _ _ _) ⟨none, 0, rfl, Nat.le_refl _, .inl ⟨rfl, rfl, rfl⟩⟩ rfl rfl hnr hsrc (by simp) ?_ (nn := true) ?_
      · rw [Nat.zero_add]; exact hroom
      · rw [List.nil_append, Nat.zero_add]; exact hk
  · rename_i σ xs ex nn
    obtain ⟨eσ, hk⟩ := castD_prop hk
    cases sl_inj eσ
    have hs' := hs
    obtain ⟨c, hsl, hex, hnn⟩ := hs
    cases ys with
    | nil =>
      have hk' : Q (.imm τ xs ex nn) h := hk
      have hnews : news = [] := by cases (hnr : news = []); rfl
      subst hnews
      obtain ⟨a, rfl, hle, _⟩ := hsl
      refine ⟨_, K, h, w, _, ?_, hs', hR, .refl _ _ _, hk'⟩
      have := append_fits (ty := ty) (w1 := w) h0 h1 ha0 ha1 hu hux hi hsz hsrc (by simpa using hle) (by cases a <;> simp [storeCells])
      simpa using this
    | cons y ys =>
      have hk' : (if ex then Alg.prop.br (roomOk (xs.length + (y :: ys).length) i.bytes) (fun _ => (fL cl (xs ++ (y :: ys)) fun zs => Q (.imm τ zs false (nn || isCons (y :: ys))) h)) (fun _ => (Alg.prop.fail 134)) else Alg.prop.fail 135) := hk
      split at hk'
      · rename_i hext
        obtain ⟨hroom, hk'⟩ := brb_yes hk'
        rw [fL_eq] at hk'
        obtain ⟨zs', mid, hzs, hsi, hrr⟩ := rowsOf_sound (τ := τ) (Q := fun zs => zs = xs) hR hs' (show rowsOf Alg.prop τ h (.imm τ xs ex nn) _ by simp only [rowsOf, castD]; rw [dif_pos trivial]; trivial)
        subst hzs
        have hc := hex hext
        obtain ⟨a, rfl, hle, _⟩ := hsl
        obtain ⟨z, hz, hzr, _⟩ := tyT_sound (K := K) hτ
        have hzl : z.cells.size = τ.cells := by have := relT_len hzr; rwa [Array.length_toList] at this
        have hml := relRows_len hrr
        obtain ⟨cc, C, hcc, ⟨rest, hC⟩, hCs, hrun⟩ := append_grows (ty := ty) h0 h1 ha0 ha1 hu hux hi hsz hz hzl hsrc (by simp; omega) hroom (fun w' hw => by
          have := firsts_sound (P := P) (sliceIs_heap hsi hw) hml (Nat.le_refl _)
          rwa [List.take_of_length_le (by omega)] at this) hml
        obtain ⟨d1, d2⟩ := Ext.drew hR (w.drawn + 1)
        obtain ⟨d3, d4⟩ := d1.alloc (.cells C e)
        have hbC : ({ ({ w with drawn := w.drawn + 1 } : World) with heap := w.heap.push (.cells C e) } : World).heap[w.heap.size]? = some (.cells C e (0, 0)) := by simp
        have hfree : ¬ Blocks K h w.heap.size := by
          rintro ⟨k, b, L, hk, hL, hv, e⟩
          obtain ⟨L', hL', hb⟩ := hR.live _ _ hk
          cases hL.symm.trans hL'
          have := blkRel_bound hb hv
          omega
        obtain ⟨d5, d6⟩ := d3.freeze hbC hfree (fun C' hs => by rw [hR.S_out (Nat.le_refl _)] at hs; cases hs)
        refine ⟨.slice (some ⟨w.heap.size, 0, none⟩) (zs'.length + (y :: ys).length) cc, _, h, _, .imm τ (zs' ++ (y :: ys)) false (nn || true), ?_, ?_, d5, (d2.trans d4).freeze d6 (.inl (Nat.le_refl _)), hk'⟩
        · rw [hrun]; simp [newRow]; exact ⟨rfl, rfl, rfl⟩
        · refine ⟨cc, ⟨_, by rw [List.length_append], by rw [List.length_append]; exact hcc, .inr ⟨_, 0, rfl, .inr ⟨C, [], mid ++ news, rest, if_pos rfl, by simpa using hC, rfl, ?_⟩⟩⟩, (fun h => by cases h), fun _ l c h => by cases h⟩
          exact relRows_imp (relT_mono (d4.le.trans d6).S τ) _ _ (relRows_append.2 ⟨_, _, rfl, hrr, hnr⟩)
      · exact hk'.elim
  · rename_i id sz off len wh cap ex nn
    split at hk
    rotate_left
    · exact hk.elim
    rename_i hszτ
    subst hszτ
    split at hk
    rotate_left
    · exact hk.elim
    rename_i σ xs hg
    obtain ⟨eσ, hk⟩ := castD_prop hk
    cases sl_inj eσ
    obtain ⟨oldm, m1, m2, m3, m4⟩ := slr_rows hR hs rfl hg
    have hmine : (match (generalizing := false) wh with | true => xs | false => (xs.drop off).take len) = (xs.drop off).take len := by
      cases wh
      · rfl
      · exact m4 rfl
    have hk' : Alg.prop.br (roomOk (len + ys.length) i.bytes) (fun _ => Alg.prop.br (andB ex (isCons ys))
            (fun _ => Alg.prop.br (decide (cap < len + ys.length))
              (fun _ => fL cl ((match (generalizing := false) wh with | true => xs | false => (xs.drop off).take len) ++ ys) fun zs => h.newK (.rows τ zs) fun id' h => Q (.slr id' τ.cells 0 (len + ys.length) true (len + ys.length) false true) h)
              (fun _ => inPlaceK Alg.prop cl h id τ off len cap xs ys Q (.slr id τ.cells off (len + ys.length) wh cap ex nn)))
            (fun _ => Alg.prop.br (decide (off + len = xs.length))
              (fun _ => fL cl ((match (generalizing := false) wh with | true => xs | false => (xs.drop off).take len) ++ ys) fun zs => h.dropK id fun h => h.newK (.rows τ zs) fun id' h => Q (.slr id' τ.cells 0 (len + ys.length) true (len + ys.length) false (nn || isCons ys)) h)
              (fun _ => inPlaceK Alg.prop cl h id τ off len cap xs ys Q (.slr id τ.cells off (len + ys.length) wh cap ex nn)))) (fun _ => (Alg.prop.fail 137)) := hk
    clear hk
    rw [hmine] at hk'
    obtain ⟨hroom, hk⟩ := brb_yes hk'
    rcases br_or hk with ⟨hec, hk⟩ | ⟨_, hk⟩
    · rw [andB_eq, Bool.and_eq_true] at hec
      rcases br_or hk with ⟨hcap, hk⟩ | ⟨_, hk⟩
      · rw [fL_eq] at hk
        have hcap : cap < len + ys.length := by simpa using hcap
        have hs' := hs
        obtain ⟨L, a, c, hL, rfl, hLz, hlen, hc, hcap', hex, hwh, hr⟩ := hs
        have := hex hec.1
        exact grow_sound hT ha0 ha1 hR hR (.refl _ _ _) m1 m2 m3 hnr hsrc (by omega) hroom hk
      · exact inPlace_sound hT hR hs hg ha0 ha1 hnr hsrc hk
    · rcases br_or hk with ⟨hend, hk⟩ | ⟨_, hk⟩
      · rw [fL_eq, Heap.dropK_eq] at hk
        exact behind_sound hT hR hs hg ha0 ha1 hnr hsrc hroom (by simpa using hend) hk
      · exact inPlace_sound hT hR hs hg ha0 ha1 hnr hsrc hk
  · exact hk.elim

end Go.Tw

/- Copies, conversions, and all operations that do something. -/
namespace Go.Tw
open Go Go.MapKept

variable {P : Program} {K K' : KW} {h : Heap} {w w' : World}

theorem copy_run {ts : Array TypeId} {ty t e : TypeId} {as : Array Value} {base : Option Addr} {dLen dCap m sz : Nat} {vx : Value} {news : List Value} {w1 : World} (h0 : ts[0]? = some t) (ha0 : as[0]? = some (.slice base dLen dCap)) (ha1 : as[1]? = some vx)
    (hu : P.underlying t = some (.slice e)) (hs : sizeT P e = some sz) (hsrc : Src P w sz vx m news) {n : Nat} (hn : n = if m ≤ dLen then m else dLen)
    (hst : match base with | some a => (storeCells a (news.take (n * sz)) 0).run P w = .ok () w1 | none => w1 = w) : (Builtin.copy_ ts ty as).run P w = .ok (.int .i64 (n : Int)) w1 := by
  obtain ⟨hl, _, hf⟩ := hsrc
  obtain ⟨h1, h2⟩ := hf w rfl
  have hmin : Nat.min m dLen = n := by
    rw [hn]
    show (if m ≤ dLen then m else dLen) = _
    rfl
  have h3 := h2 n (by rw [hn]; split <;> omega)
  cases base with
  | none =>
    cases (hst : w1 = w)
    simp [Builtin.copy_, h0, ha0, ha1, run_underlying hu, run_sizeT hs, h1, hmin, h3, goInt]
  | some a =>
    simp only at hst
    simp [Builtin.copy_, h0, ha0, ha1, run_underlying hu, run_sizeT hs, h1, hmin, h3, goInt, hst]

theorem Src.take {sz : Nat} {v : Value} {m : Nat} {news : List Value} (h : Src P w sz v m news) {n : Nat} (hn : n ≤ m) : (news.take (n * sz)).length = n * sz := by
  rw [List.length_take, h.1, Nat.min_eq_left (Nat.mul_le_mul_right _ hn)]

theorem copy_slc {cl : Bool} {ts : Array TypeId} {ty t e : TypeId} {as : Array Value} {vd vx : Value} {Q : AV → Heap → Prop} {ys : List B8} {news : List Value} {id cell len cap : Nat} {ex : Bool} {cs rest : List AV} {m : Nat} {xs : List B8} (h0 : ts[0]? = some t) (ha0 : as[0]? = some vd) (ha1 : as[1]? = some vx)
    (hu : P.underlying t = some (.slice e)) (hsz : sizeT P e = some 1) (hR : R K h w) (hd : rel K (.slc id cell 1 len cap ex) vd) (hg : h.get id = some (.cells cs)) (hdr : dropC cs cell = some (.barr m xs :: rest)) (hlm : len ≤ m)
    (hnews : news = ys.map byteV) (hsrc : Src P w 1 vx ys.length news)
    (hk' : fL cl (ys.take len ++ xs.drop (if ys.length ≤ len then ys.length else len)) fun zs => match setC cs cell [.barr m zs] with
                | some cs => fL true cs fun cs => h.setK id (.cells cs) fun h => Q (.i .i64 ((if ys.length ≤ len then ys.length else len : Nat) : Int)) h
                | none => Alg.prop.fail 146) : Acts P K h w (Builtin.copy_ ts ty as) Q := by
  obtain ⟨L, c, hL, hv, rfl, hle, _⟩ := hd
  obtain ⟨L', hL', _, mid, hcell, hr⟩ := hR.live _ _ hg
  cases hL.symm.trans hL'
  rw [fL_eq] at hk'
  generalize hnn : (if ys.length ≤ len then ys.length else len) = n at hk'
  have hn1 : n ≤ ys.length := by rw [← hnn]; split <;> omega
  have hn2 : n ≤ len := by rw [← hnn]; split <;> omega
  have hyt : ys.take len = ys.take n := by
    rw [← hnn]; split
    · rw [List.take_of_length_le (by omega), List.take_of_length_le (by omega)]
    · rfl
  rw [hyt] at hk'
  split at hk'
  rotate_left
  · exact hk'.elim
  rename_i cs' hset
  rw [fL_eq, Heap.setK_eq] at hk'
  obtain ⟨us, ws, e1, hl1, us2, ws2, e2, ⟨hxl, hx2⟩, hrest⟩ := dropC_rel hdr hr
  have hzl : ((ys.take n) ++ xs.drop n).length = m := by
    rw [List.length_append, List.length_take, List.length_drop, Nat.min_eq_left hn1]; omega
  have hcell2 : relCs K [.barr m ((ys.take n) ++ xs.drop n)] (((ys.take n) ++ xs.drop n).map byteV) := ⟨_, [], by simp, ⟨hzl, rfl⟩, rfl⟩
  obtain ⟨pre, us3, ws3, e3, hl3, hl4, hr'⟩ := setC_rel hset hr hcell2
  have hbytes : news.take (n * 1) = (ys.take n).map byteV := by rw [hnews, Nat.mul_one, List.map_take]
  have hpre : pre = us ∧ us3 ++ ws3 = ws := by
    have := e3.symm.trans e1
    exact List.append_inj this (by omega)
  have hbound : L.base + cell + ((ys.take n).map byteV).length ≤ L.size := by
    obtain ⟨C, T, fr, p, q, _, eC, hp, hz, _⟩ := hcell
    have h1 := congrArg List.length eC
    have h2 := congrArg List.length e1
    have h3 := congrArg List.length e2
    have h4 := congrArg List.length hx2
    simp only [Array.length_toList, List.length_append, List.length_map] at h1 h2 h3 h4
    rw [List.length_map, List.length_take, Nat.min_eq_left hn1]
    omega
  have hones : ∀ v ∈ (ys.take n).map byteV, oneV v = true := by
    intro v hv; obtain ⟨b, _, rfl⟩ := List.mem_map.1 hv; rfl
  obtain ⟨o, hrun, hc'⟩ := write_ok (P := P) (k := cell) (vs := (ys.take n).map byteV) hcell (by rw [e1]; simp; omega) hbound hones
  have emid : mid.take cell ++ ((ys.take n).map byteV ++ mid.drop (cell + ((ys.take n).map byteV).length)) = pre ++ (((ys.take n) ++ xs.drop n).map byteV ++ ws3) := by
    have hnl : ((ys.take n).map byteV).length = n := by rw [List.length_map, List.length_take, Nat.min_eq_left hn1]
    have t1 : mid.take cell = us := by rw [e1]; exact List.take_left' hl1
    have t2 : mid.drop (cell + n) = (xs.drop n).map byteV ++ ws2 := by
      rw [← List.drop_drop, e1, List.drop_left' hl1, e2, hx2, List.drop_append_of_le_length (by simp; omega), List.map_drop]
    have t3 : ws3 = ws2 := by
      have h5 : us3.length = us2.length := by rw [hl4, hx2, List.length_map, List.length_map, hzl, hxl]
      have := hpre.2.trans e2
      exact (List.append_inj this h5).2
    rw [hnl, t1, t2, hpre.1, t3, List.map_append, List.append_assoc]
  rw [emid] at hc'
  obtain ⟨q1, q2⟩ := hR.setB (blk := .cells cs') hg hL hv ⟨hv, _, hc', hr'⟩ (by simp) (by simp)
  refine ⟨_, K, _, _, .i .i64 ((n : Nat) : Int), copy_run h0 ha0 ha1 hu hsz hsrc hnn.symm ?_, rfl, q1, q2, hk'⟩
  rw [hbytes]
  exact hrun

theorem copy_sound {cl : Bool} {ts : Array TypeId} {ty t xt : TypeId} {as : Array Value} {d x : AV} {vd vx : Value} {Q : AV → Heap → Prop} (h0 : ts[0]? = some t) (ha0 : as[0]? = some vd) (ha1 : as[1]? = some vx)
    (hR : R K h w) (hd : rel K d vd) (hx : rel K x vx) (hk : copyK Alg.prop P cl h t xt d x Q) : Acts P K h w (Builtin.copy_ ts ty as) Q := by
  unfold copyK at hk
  split at hk
  rotate_left
  · exact hk.elim
  rename_i e hu
  split at hk
  rotate_left
  · exact hk.elim
  rename_i τ xd hτ hux
  have hq := copySrc_sound (P := P) hR hx hk
  clear hk
  obtain ⟨ys, news, hk, hnr, hsrc⟩ := hq
  obtain ⟨_, _, _, hsz⟩ := tyT_sound (K := K) hτ
  split at hk
  · cases (hd : vd = _)
    refine ⟨.int .i64 ((0 : Nat) : Int), K, h, w, .i .i64 0, copy_run h0 ha0 ha1 hu hsz hsrc (by split <;> omega) rfl, rfl, hR, .refl _ _ _, hk⟩
  · rename_i id sz off len wh cap ex nn
    split at hk
    rotate_left
    · exact hk.elim
    rename_i hszτ
    subst hszτ
    split at hk
    rotate_left
    · exact hk.elim
    rename_i σ xs hg
    obtain ⟨eσ, hk⟩ := castD_prop hk
    cases sl_inj eσ
    obtain ⟨L, a, c, hL, rfl, hLz, hlen, hc, hcap, hex, hwh, hr⟩ := hd
    obtain ⟨L', hL', hz, hn, hb⟩ := hR.live _ _ hg
    cases hL.symm.trans hL'
    have hk' : Q (.i .i64 ((if ys.length ≤ len then ys.length else len : Nat) : Int)) (h.set id (.rows τ (xs.take off ++ ys.take len ++ xs.drop (off + (if ys.length ≤ len then ys.length else len))))) := by
      cases wh with
      | false =>
        have hk' : (fun K => fL cl (xs.take off ++ ys.take len ++ xs.drop (off + (if ys.length ≤ len then ys.length else len))) K : (List τ.den → Prop) → Prop) fun zs => h.setK id (.rows τ zs) fun h => Q (.i .i64 ((if ys.length ≤ len then ys.length else len : Nat) : Int)) h := hk
        simp only [fL_eq, Heap.setK_eq] at hk'
        exact hk'
      | true =>
        have hk' : (fun K => fL cl (ys.take len ++ xs.drop ys.length) K : (List τ.den → Prop) → Prop) fun zs => h.setK id (.rows τ zs) fun h => Q (.i .i64 ((if ys.length ≤ len then ys.length else len : Nat) : Int)) h := hk
        simp only [fL_eq, Heap.setK_eq] at hk'
        obtain ⟨rfl, rfl⟩ := hwh rfl
        have : xs.drop ys.length = xs.drop (0 + (if ys.length ≤ L.n then ys.length else L.n)) := by
          split
          · rw [Nat.zero_add]
          · rw [Nat.zero_add, List.drop_eq_nil_iff.2 (by omega), List.drop_eq_nil_iff.2 (by omega)]
        rw [this] at hk'
        simpa using hk'
    clear hk
    generalize hnn : (if ys.length ≤ len then ys.length else len) = n at hk'
    have hn1 : n ≤ ys.length := by rw [← hnn]; split <;> omega
    have hn2 : n ≤ len := by rw [← hnn]; split <;> omega
    have hyt : ys.take len = ys.take n := by
      rw [← hnn]; split
      · rw [List.take_of_length_le (by omega), List.take_of_length_le (by omega)]
      · rfl
    rw [hyt] at hk'
    rcases Nat.eq_zero_or_pos n with hz0 | hz0
    · subst hz0
      have hzs : xs.take off ++ ys.take 0 ++ xs.drop (off + 0) = xs := by simp
      rw [hzs] at hk'
      obtain ⟨q1, q2⟩ := hR.setV (blk := .rows τ xs) hg hL ⟨hz, hn, hb⟩ (by simp) (by simp)
      refine ⟨_, K, _, w, .i .i64 ((0 : Nat) : Int), copy_run h0 ha0 ha1 hu hsz hsrc hnn.symm ?_, rfl, q1, q2, hk'⟩
      cases a <;> simp [storeCells]
    · rcases hr with ⟨_, _, rfl⟩ | ⟨ad, rfl, hsp, hr⟩
      · omega
      rcases hr with rfl | ⟨hv, rfl, hfit⟩
      · omega
      rcases hb with ⟨hv', _⟩ | ⟨_, mid, hcell, hrows⟩
      · rw [hv] at hv'; cases hv'
      have hml := relRows_len hrows
      obtain ⟨us, ws, e1, l1, r1, _⟩ := relRows_cut hnr n
      have hul : us.length = n * τ.cells := by rw [l1, List.length_take, Nat.min_eq_left hn1]
      have hus : news.take (n * τ.cells) = us := by rw [e1]; exact List.take_left' hul
      have hbase : L.base + off * τ.cells + us.length ≤ L.size := by
        have : (off + n) * τ.cells ≤ (off + c) * τ.cells := Nat.mul_le_mul_right _ (by omega)
        rw [Nat.add_mul off n] at this
        omega
      obtain ⟨o, hrun, hc'⟩ := write_ok (P := P) (k := off * τ.cells) (vs := us) hcell (by rw [hml]; exact Nat.mul_le_mul_right _ (by omega)) hbase (relRows_one r1)
      have htl : (ys.take n).length = n := by rw [List.length_take, Nat.min_eq_left hn1]
      have hsp := relRows_splice hrows r1 off (by rw [htl]; omega)
      rw [htl] at hsp
      obtain ⟨q1, q2⟩ := hR.setB (blk := .rows τ (xs.take off ++ ys.take n ++ xs.drop (off + n))) hg hL hv ⟨hz, by rw [← hn]; simp; omega, .inr ⟨hv, _, hc', hsp⟩⟩ (by simp) (by simp)
      refine ⟨_, K, _, _, .i .i64 ((n : Nat) : Int), copy_run h0 ha0 ha1 hu hsz hsrc hnn.symm ?_, rfl, q1, q2, hk'⟩
      rw [hus]
      exact hrun
  · rename_i id cell len cap ex
    split at hk
    rotate_left
    · exact hk.elim
    rename_i cs hg
    split at hk
    rotate_left
    · exact hk.elim
    rename_i m xs rest hdr
    split at hk
    rotate_left
    · exact hk.elim
    rename_i hlm
    obtain ⟨eσ, hk⟩ := castD_prop hk
    cases sl_inj eσ
    exact copy_slc (ys := ys) h0 ha0 ha1 hu hsz hR hd hg hdr hlm (relRows_bytes hnr) hsrc hk
  · exact hk.elim

end Go.Tw

/- All operations that do something. -/
namespace Go.Tw
open Go Go.MapKept

variable {P : Program} {K K' : KW} {h : Heap} {w w' : World}

theorem mark_ok {b o : Nat} {C : Array Value} {T : TypeId} {fr : Nat × Nat} (hb : w.heap[b]? = some (.cells C T fr)) (hu : unfrz fr C.size) :
    ∃ fr', (markStringish ⟨b, o, none⟩).run P w = .ok () (putB w b (.cells C T fr')) ∧ unfrz fr' C.size := by
  refine ⟨if fr.1 == fr.2 then (C.size, C.size + 1) else (min fr.1 C.size, max fr.2 (C.size + 1)), ?_, ?_⟩
  · have hs : w.shape? b = some (T, C.size) := by simp [World.shape?, hb]
    have hbs : b < w.heap.size := (Array.getElem?_eq_some_iff.1 hb).1
    have hf : w.freeze ⟨b, C.size, none⟩ 1 = putB w b (.cells C T (if fr.1 == fr.2 then (C.size, C.size + 1) else (min fr.1 C.size, max fr.2 (C.size + 1)))) := by
      unfold World.freeze putB
      rw [if_neg (by simp)]
      congr 1
      apply Array.ext_getElem?
      intro j
      rw [Array.getElem?_modify, Array.getElem?_setIfInBounds]
      by_cases hj : b = j
      · subst hj
        rw [if_pos rfl, if_pos rfl, if_pos hbs, hb]
        obtain ⟨f1, f2⟩ := fr
        rfl
      · rw [if_neg hj, if_neg hj]
    simp only [markStringish, Sem.run_bind, run_shape, Result.andThen_ok, hs, run_freeze, hf]
  · split
    · exact .inr (Nat.le_refl _)
    · rename_i hne
      rcases hu with hu | hu
      · simp [hu] at hne
      · right; show C.size ≤ min fr.1 C.size; omega

theorem again_sound {s d : TypeId} {a b : TypeId} {id sz off len : Nat} {wh : Bool} {cap : Nat} {ex nn : Bool} {v : Value} {Q : AV → Heap → Prop} {τ : Ty} {xs : List τ.den} (hd : P.underlying d = some (.slice b)) (hs : P.underlying s = some (.slice a)) (hb : P.underlying b = some (.int .u8)) (hsd : s = d)
    (hR : R K h w) (hx : rel K (.slr id sz off len wh cap ex nn) v) (hg : h.get id = some (.rows τ xs)) (hlen : 0 < len) (hk : Q (.slr id sz off len wh cap ex nn) (h.set id (.rows τ xs))) : Acts P K h w (convert s d v) Q := by
  have hx' := hx
  obtain ⟨L, ad, c, hL, rfl, hLz, hle, hc, hcap, hex, hwh, hr⟩ := hx
  rcases hr with ⟨_, _, rfl⟩ | ⟨ad, rfl, hsp, hr⟩
  · omega
  rcases hr with rfl | ⟨hv, rfl, hfit⟩
  · omega
  obtain ⟨L', hL', hz, hn, hbk⟩ := hR.live _ _ hg
  cases hL.symm.trans hL'
  rcases hbk with ⟨hv', _⟩ | ⟨_, mid, hcell, hrows⟩
  · rw [hv] at hv'; cases hv'
  obtain ⟨C, T, fr, pre, post, hbC, eC, hpre, hsize, hu⟩ := hcell
  obtain ⟨fr', hrun, hu'⟩ := mark_ok (P := P) (o := L.base + off * sz) hbC hu
  have hbs : L.b < w.heap.size := (Array.getElem?_eq_some_iff.1 hbC).1
  obtain ⟨q1, q2⟩ := hR.setB (o := .cells C T fr') (blk := .rows τ xs) hg hL hv ⟨hz, hn, .inr ⟨hv, mid, ⟨C, T, fr', pre, post, putB_self hbs, eC, hpre, hsize, hu'⟩, hrows⟩⟩ (by simp) (by simp)
  refine ⟨_, K, _, _, _, ?_, hx', q1, q2, hk⟩
  subst hsd
  rw [hs] at hd; cases hd
  simp [convert, run_underlying hs, run_underlying hb, hrun]

theorem e_map {e : Operand → AV} (parts : Array (Nat × Operand)) : (parts.toList.map fun (i, x) => (i, e x)) = parts.toList.map fun p => (p.1, e p.2) := rfl

theorem act_sound {cl : Bool} (hR : R K h w) {e : Operand → AV} {r : Operand → Value} (he : ∀ x, rel K (e x) (r x)) (hconst : ∀ v, (∃ k n, v = .int k n) → r (.const v) = v) {o : Oper} {Q : AV → Heap → Prop} (hk : actK Alg.prop P cl h e o Q) :
    ∃ res K' h' w' av, (execOp r o).run P w = .ok res w' ∧ ((res = .skip ∧ av = .undef) ∨ ∃ v, res = .value v ∧ rel K' av v) ∧ R K' h' w' ∧ Ext K h w K' h' w' ∧ Q av h' := by
  have done : ∀ {s : Sem Value}, execOp r o = (do pure (.value (← s))) → Acts P K h w s Q →
      ∃ res K' h' w' av, (execOp r o).run P w = .ok res w' ∧ ((res = .skip ∧ av = .undef) ∨ ∃ v, res = .value v ∧ rel K' av v) ∧ R K' h' w' ∧ Ext K h w K' h' w' ∧ Q av h' := by
    rintro s es ⟨v, K', h', w', av, h1, h2, h3, h4, h5⟩
    exact ⟨.value v, K', h', w', av, by rw [es]; simp [h1], .inr ⟨v, rfl, h2⟩, h3, h4, h5⟩
  have doneU : ∀ {s : Sem Unit}, execOp r o = (do s; pure .skip) → ActsU P K h w s (fun h => Q .undef h) →
      ∃ res K' h' w' av, (execOp r o).run P w = .ok res w' ∧ ((res = .skip ∧ av = .undef) ∨ ∃ v, res = .value v ∧ rel K' av v) ∧ R K' h' w' ∧ Ext K h w K' h' w' ∧ Q av h' := by
    rintro s es ⟨K', h', w', h1, h3, h4, h5⟩
    exact ⟨.skip, K', h', w', .undef, by rw [es]; simp [h1], .inl ⟨rfl, rfl⟩, h3, h4, h5⟩
  obtain ⟨dst, op, type, pos, after, guard⟩ := o
  cases op <;> simp only [actK] at hk <;> try exact hk.elim
  case alloc t =>
    split at hk
    · rename_i cs hz; exact done rfl (alloc_sound hR hz hk)
    · exact hk.elim
  case box t v =>
    rw [fL_eq] at hk
    split at hk
    · rename_i hw; exact done rfl (box_sound hR (he v) hw hk)
    · exact hk.elim
  case buildSlice t len parts => exact done rfl (buildSlice_sound (cl := cl) he hR hk)
  case store t a v => exact doneU rfl (store_sound hR (he a) (he v) hk)
  case convert s d x =>
    split at hk
    rotate_left
    · exact hk.elim
    rename_i b a hd hs
    split at hk
    rotate_left
    · exact hk.elim
    rename_i hb
    have hx := he x
    generalize e x = ax at *
    split at hk
    · rename_i id sz off len wh cap ex nn hsd
      split at hk
      · rename_i τ xs hg
        obtain ⟨hlen, hk⟩ := br_yes hk
        rw [Heap.setK_eq] at hk
        exact done rfl (again_sound hd hs hb (by simpa using hsd) hR hx hg hlen hk)
      · exact hk.elim
    · exact hk.elim
  case makeMap t res =>
    cases res
    · simp only [actK] at hk
      split at hk
      · exact done rfl (makeMap_sound hR hk)
      · exact hk.elim
    · exact hk.elim
  case makeSlice t l c =>
    refine done rfl (makeSlice_sound hR (he l) (he c) ?_ hk)
    intro hs k1 x k2 y e1 e2
    split at hs
    · simp at hs; subst hs; rw [e1] at e2; cases e2; rfl
    · rename_i j1 a j2 b
      simp at hs; subst hs
      rw [hconst _ ⟨_, _, rfl⟩] at e1 e2
      cases e1; cases e2; rfl
    · cases hs
  case mapUpdate t m k v => exact doneU rfl (mapUpdate_sound hR (he m) (he k) (he v) hk)
  case insert t m k v => exact doneU rfl (mapUpdate_sound hR (he m) (he k) (he v) hk)
  case range t x => exact done rfl (range_sound hR (he x) hk)
  case next it s => exact done rfl (next_sound hR (he it) hk)
  case call c =>
    obtain ⟨callee, args, argTypes⟩ := c
    simp only at hk
    have hr : rels K (args.toList.map e) (args.toList.map r) := rels_map he _
    split at hk
    · rename_i t xt s x ht ha
      rw [ha] at hr
      obtain ⟨vs, ws, ev, hs, vx, ws2, ev2, hx, _⟩ := hr
      subst ev2
      have h0 : argTypes[0]? = some t := by rw [← Array.getElem?_toList, ht]; rfl
      have h1 : argTypes[1]? = some xt := by rw [← Array.getElem?_toList, ht]; rfl
      have a0 : (args.map r)[0]? = some vs := by rw [← Array.getElem?_toList, Array.toList_map, ev]; rfl
      have a1 : (args.map r)[1]? = some vx := by rw [← Array.getElem?_toList, Array.toList_map, ev]; rfl
      obtain ⟨v, K', h', w', av, g1, g2, g3, g4, g5⟩ := append_sound (ty := type) h0 h1 a0 a1 hR hs hx hk
      exact ⟨.value v, K', h', w', av, by simp [execOp, resolve, invoke, builtin, g1], .inr ⟨v, rfl, g2⟩, g3, g4, g5⟩
    · rename_i t xt s x ht ha
      rw [ha] at hr
      obtain ⟨vs, ws, ev, hs, vx, ws2, ev2, hx, _⟩ := hr
      subst ev2
      have h0 : argTypes[0]? = some t := by rw [← Array.getElem?_toList, ht]; rfl
      have a0 : (args.map r)[0]? = some vs := by rw [← Array.getElem?_toList, Array.toList_map, ev]; rfl
      have a1 : (args.map r)[1]? = some vx := by rw [← Array.getElem?_toList, Array.toList_map, ev]; rfl
      obtain ⟨v, K', h', w', av, g1, g2, g3, g4, g5⟩ := copy_sound (ty := type) h0 a0 a1 hR hs hx hk
      exact ⟨.value v, K', h', w', av, by simp [execOp, resolve, invoke, builtin, g1], .inr ⟨v, rfl, g2⟩, g3, g4, g5⟩
    · rename_i t ts m k ht ha
      rw [ha] at hr
      obtain ⟨vs, ws, ev, hs, vx, ws2, ev2, hx, _⟩ := hr
      subst ev2
      have h0 : argTypes[0]? = some t := by rw [← Array.getElem?_toList, ht]; rfl
      have a0 : (args.map r)[0]? = some vs := by rw [← Array.getElem?_toList, Array.toList_map, ev]; rfl
      have a1 : (args.map r)[1]? = some vx := by rw [← Array.getElem?_toList, Array.toList_map, ev]; rfl
      obtain ⟨K', h', w', g1, g3, g4, g5⟩ := delete_sound (ty := type) h0 a0 a1 hR hs hx hk
      exact ⟨.value (.tuple #[]), K', h', w', .tup [], by simp [execOp, resolve, invoke, builtin, g1], .inr ⟨_, rfl, _, rfl, rfl⟩, g3, g4, g5⟩
    · rename_i t ts x ht ha
      rw [ha] at hr
      obtain ⟨vs, ws, ev, hs, _⟩ := hr
      have h0 : argTypes[0]? = some t := by rw [← Array.getElem?_toList, ht]; rfl
      have a0 : (args.map r)[0]? = some vs := by rw [← Array.getElem?_toList, Array.toList_map, ev]; rfl
      obtain ⟨K', h', w', g1, g3, g4, g5⟩ := clear_sound (ty := type) h0 a0 hR hs hk
      exact ⟨.value (.tuple #[]), K', h', w', .tup [], by simp [execOp, resolve, invoke, builtin, g1], .inr ⟨_, rfl, _, rfl, rfl⟩, g3, g4, g5⟩
    · exact hk.elim

end Go.Tw

/- Frames: what an operation of a region makes of them. -/
namespace Go.Tw
open Go

variable {P : Program} {K K' : KW} {h : Heap} {w w' : World}

theorem strV_of (s : ByteArray) : Value.string s = strV (s.data.toList.map UInt8.toBitVec) := by
  unfold strV
  congr 1
  apply ByteArray.ext
  apply Array.ext'
  simp only [List.map_map]
  rw [show (UInt8.ofBitVec ∘ UInt8.toBitVec) = id from rfl, List.map_id]

theorem u_of {k : IntKind} {n : Int} (h0 : 0 ≤ n) (h1 : n < 2 ^ k.bits) : Value.int k n = .int k ((BitVec.ofInt k.bits n).toNat : Int) := by
  congr 1
  rw [BitVec.toNat_ofInt]
  have : n % ((2 ^ k.bits : Nat) : Int) = n := Int.emod_eq_of_lt h0 (by push_cast; exact h1)
  rw [this]; omega

theorem constAV_rel (v : Value) : rel K (constAV v) v := by
  cases v with
  | bool b => rfl
  | int k n =>
    show rel K (if k.signed then .i k n else if 0 ≤ n ∧ n < 2 ^ k.bits then .u k (BitVec.ofInt k.bits n) else .undef) _
    split
    · rfl
    · split
      · rename_i hn; exact u_of hn.1 hn.2
      · trivial
  | string s => exact strV_of s
  | pointer a => cases a <;> first | rfl | trivial
  | slice a l c =>
    cases a with
    | some a => trivial
    | none =>
      cases l with
      | zero => cases c with
        | zero => rfl
        | succ c => trivial
      | succ l => trivial
  | map m => cases m <;> first | rfl | trivial
  | nilFunc => rfl
  | func f first cap =>
    obtain ⟨l1⟩ := first
    obtain ⟨l2⟩ := cap
    cases f with
    | func g =>
      cases l1 with
      | nil => cases l2 with
        | nil => exact ⟨#[], #[], rfl, rfl, rfl⟩
        | cons _ _ => trivial
      | cons _ _ => trivial
    | _ => trivial
  | _ => trivial

theorem nth_rel : ∀ {tmps : List AV} {vs : List Value} (_ : rels K tmps vs) (t : Nat), rel K (nth tmps t) ((vs[t]?).getD undef)
  | [], vs, h, t => trivial
  | x :: xs, vs, ⟨v, ws, e, hx, hr⟩, 0 => by rw [e]; exact hx
  | x :: xs, vs, ⟨v, ws, e, hx, hr⟩, t + 1 => by rw [e, List.getElem?_cons_succ]; exact nth_rel hr t

theorem eval_rel {tmps : List AV} {a : Act} (ht : rels K tmps a.tmps.toList) (x : Operand) : rel K (evalO tmps x) (a.eval x) := by
  cases x with
  | tmp t =>
    have := nth_rel ht t
    show rel K (nth tmps t) (a.tmps.getD t undef)
    rw [Array.getD_eq_getD_getElem?, ← Array.getElem?_toList]
    exact this
  | const v => exact constAV_rel v
  | global g => trivial
  | func f => exact ⟨#[], #[], rfl, rfl, rfl⟩

theorem rels_set {av : AV} {v : Value} (hv : rel K av v) : ∀ {tmps : List AV} {vs : List Value} (_ : rels K tmps vs) (t : Nat), rels K (tmps.set t av) (vs.set t v)
  | [], vs, h, t => by cases (h : vs = []); rfl
  | x :: xs, vs, ⟨u, ws, e, hx, hr⟩, 0 => by rw [e]; exact ⟨v, ws, rfl, hv, hr⟩
  | x :: xs, vs, ⟨u, ws, e, hx, hr⟩, t + 1 => by rw [e]; exact ⟨u, ws.set t v, rfl, hx, rels_set hv hr t⟩

theorem rels_len : ∀ {tmps : List AV} {vs : List Value}, rels K tmps vs → vs.length = tmps.length
  | [], vs, h => by cases (h : vs = []); rfl
  | x :: xs, vs, ⟨u, ws, e, hx, hr⟩ => by rw [e]; simp [rels_len hr]

def putL (tmps : List AV) (d : Option Tmp) (v : AV) : List AV := match d with
  | none => tmps
  | some d => tmps.set d v

theorem putK_prop {cl deep : Bool} {tmps : List AV} {d : Option Tmp} {v : AV} {Q : List AV → Prop} : putK cl deep tmps d v Q = Q (putL tmps d v) := by
  cases d with
  | none => rfl
  | some d =>
    show fD cl deep v (fun v => setK tmps d v Q) = _
    rw [fD_eq, setK_prop]; rfl

theorem put_rel {tmps : List AV} {a : Act} (ht : rels K tmps a.tmps.toList) {av : AV} {v : Value} (hv : rel K av v) (d : Option Tmp) : rels K (putL tmps d av) (a.put d v).tmps.toList := by
  cases d with
  | none => exact ht
  | some d =>
    show rels K (tmps.set d av) (a.tmps.setIfInBounds d v).toList
    rw [Array.toList_setIfInBounds]
    exact rels_set hv ht d

theorem put_defers (a : Act) (d : Option Tmp) (v : Value) : (a.put d v).defers = a.defers := by cases d <;> rfl

theorem fLs_prop {α : Type} {l : List α} {Q : List α → Prop} : fLs l Q = Q l := fLs_eq l Q

theorem fVs_prop {cl : Bool} : ∀ {l : List AV} {Q : List AV → Prop}, fVs cl l Q = Q l
  | [], Q => rfl
  | v :: l, Q => by
    show fS cl v (fun v => fVs cl l fun vs => Q (v :: vs)) = _
    rw [fS_eq, fVs_prop]

def boolOf : Value → Option Bool
  | .bool b => some b
  | _ => none

theorem yielded_eq (ops : Array Oper) (tmps : Array Value) (j : Nat) : yielded ops tmps j = (((ops[j]?).bind (·.dst)).bind (tmps[·]?)).bind boolOf := by
  unfold yielded
  cases ((ops[j]?).bind (·.dst)).bind (tmps[·]?) with
  | none => rfl
  | some v => cases v <;> rfl

theorem boolOf_rel {x : AV} {v : Value} (h : rel K x v) (hu : x ≠ .undef) (hb : ∀ b, x ≠ .bool b) : boolOf v = none := by
  cases x
  case undef => exact absurd rfl hu
  case bool b => exact absurd rfl (hb b)
  case agg => obtain ⟨_, rfl, _⟩ := h; rfl
  case tup => obtain ⟨_, rfl, _⟩ := h; rfl
  case barr => exact h.elim
  case i => cases (h : v = _); rfl
  case u => cases (h : v = _); rfl
  case str => cases (h : v = _); rfl
  case nilptr => cases (h : v = _); rfl
  case ptr => obtain ⟨L, _, _, rfl⟩ := h; rfl
  case rptr => obtain ⟨L, _, _, rfl, _⟩ := h; rfl
  case iptr => obtain ⟨_, _, _, _, _, _, _, _, rfl⟩ := h; rfl
  case nilsl => cases (h : v = _); rfl
  case slr => obtain ⟨L, a, c, _, rfl, _⟩ := h; rfl
  case slc => obtain ⟨L, c, _, _, rfl, _⟩ := h; rfl
  case imm => obtain ⟨c, ⟨a, rfl, _⟩, _⟩ := h; rfl
  case map => obtain ⟨L, _, rfl⟩ := h; rfl
  case nilmap => cases (h : v = _); rfl
  case fn => obtain ⟨a, b, rfl, _⟩ := h; rfl
  case nilfn => cases (h : v = _); rfl
  case yld => obtain ⟨L, _, rfl⟩ := h; rfl

theorem opAt_eq : ∀ (ops : List Oper) (i : Nat), opAt ops i = ops[i]?
  | [], i => rfl
  | o :: os, 0 => rfl
  | o :: os, i + 1 => (opAt_eq os i).trans (List.getElem?_cons_succ (a := o) (l := os)).symm

/-- What an operation's guard says. -/
theorem guard_sound {ops : Array Oper} {o : Oper} {tmps : List AV} {a : Act} {yes no : List AV → Prop} (ht : rels K tmps a.tmps.toList) (hk : guardK Alg.prop ops.toList o.guard tmps yes no) :
    ∃ ts, rels K ts a.tmps.toList ∧ ((Region.wanted o (yielded ops a.tmps) = true ∧ yes ts) ∨ (Region.wanted o (yielded ops a.tmps) = false ∧ no ts)) := by
  unfold guardK at hk
  unfold Region.wanted
  split at hk
  · rename_i hg
    rw [hg]
    exact ⟨tmps, ht, .inl ⟨rfl, hk⟩⟩
  · rename_i j want hg
    rw [hg]
    rw [opAt_eq] at hk
    simp only
    have skip : yielded ops a.tmps j = none → no tmps → ∃ ts, rels K ts a.tmps.toList ∧ (((yielded ops a.tmps j == some want) = true ∧ yes ts) ∨ ((yielded ops a.tmps j == some want) = false ∧ no ts)) := by
      intro hy hn
      exact ⟨tmps, ht, .inr ⟨by rw [hy]; rfl, hn⟩⟩
    split at hk
    · rename_i hj
      rw [Array.getElem?_toList] at hj
      exact skip (by simp [yielded, hj]) hk
    · rename_i p hj
      rw [Array.getElem?_toList] at hj
      split at hk
      · rename_i hd
        exact skip (by simp [yielded, hj, hd]) hk
      · rename_i d hd
        have hlen := rels_len ht
        rw [Array.length_toList] at hlen
        split at hk
        · rename_i hlt
          have hlt : ¬ d < tmps.length := of_decide_eq_false hlt
          refine skip ?_ hk
          have : a.tmps[d]? = none := Array.getElem?_eq_none (by rw [hlen]; exact Nat.not_lt.1 hlt)
          simp [yielded, hj, hd, this]
        · rename_i hlt
          have hlt : d < a.tmps.size := by
            rw [hlen]; exact of_decide_eq_true hlt
          have hn := nth_rel ht d
          rw [Array.getElem?_toList, Array.getElem?_eq_getElem hlt] at hn
          simp only [Option.getD_some] at hn
          have hy : yielded ops a.tmps j = boolOf a.tmps[d] := by
            rw [yielded_eq, hj, Option.bind_some, hd, Option.bind_some, Array.getElem?_eq_getElem hlt]; rfl
          unfold guardV at hk
          split at hk
          · exact hk.elim
          · rename_i b heq
            rw [heq] at hn
            have hb : a.tmps[d] = .bool b := hn
            rw [hb] at hy
            have hset : rels K (tmps.set d (.bool b)) a.tmps.toList := by
              have := rels_set (K := K) (av := .bool b) (v := .bool b) rfl ht d
              have e : a.tmps.toList.set d (.bool b) = a.tmps.toList := by
                rw [← hb]
                apply List.ext_getElem?
                intro i
                rw [List.getElem?_set]
                split
                · rename_i hi; subst hi; simp [hlt]
                · rfl
              rwa [e] at this
            refine ⟨tmps.set d (.bool b), hset, ?_⟩
            rw [hy]
            cases b
            · have hk : setK tmps d (.bool false) (fun ts => match (generalizing := false) want with | true => no ts | false => yes ts) := hk
              rw [setK_prop] at hk
              cases want
              · exact .inl ⟨rfl, hk⟩
              · exact .inr ⟨rfl, hk⟩
            · have hk : setK tmps d (.bool true) (fun ts => match (generalizing := false) want with | true => yes ts | false => no ts) := hk
              rw [setK_prop] at hk
              cases want
              · exact .inr ⟨rfl, hk⟩
              · exact .inl ⟨rfl, hk⟩
          · rename_i hu hb
            refine skip ?_ hk
            rw [hy]
            exact boolOf_rel hn (fun e => hu e) (fun b e => hb b e)

end Go.Tw

/- Calls. -/
namespace Go.Tw
open Go

variable {P : Program} {K K' : KW} {h : Heap} {w w' : World} {sp : Specs Prop}

/-- No function bears the name that the model treats apart. -/
def Good (P : Program) : Prop := ∀ (f : FuncId) (fn : Func), P.funcs[f]? = some fn → (fn.name == "runtime.NumGoroutine") = false

/-- A frame that is about to hand back a value. -/
def LeavesAs (P : Program) (fr : Frame) (f : FuncId) (kind : CallKind) (v : Value) (w : World) : Prop :=
  fr.mode = .returning ∧ fr.defers = [] ∧ fr.kind = kind ∧ fr.fn = f ∧ ∃ fn, P.funcs[f]? = some fn ∧ (results fn fr.tmps).run P w = .ok v w

/-- A call comes back. -/
def CallsTo (P : Program) (K : KW) (h : Heap) (w : World) (f : FuncId) (vs : Array Value) (Q : AV → Heap → Prop) : Prop :=
  ∀ (kind : CallKind) (cs : List Frame), ∃ v K' h' w' av fr, Steps P (lone (Frame.enter P f vs kind) cs w) (lone fr cs w') ∧ LeavesAs P fr f kind v w' ∧ rel K' av v ∧ R K' h' w' ∧ Ext K h w K' h' w' ∧ Q av h'

/-- What a frame comes to: one of a function is about to hand back, one of a round has handed back. -/
def Out (P : Program) (b : Frame) (cs : List Frame) (m : Machine) (v : Value) (w' : World) : Prop := match b.roundOf with
  | none => ∃ fr, Steps P m (lone fr cs w') ∧ LeavesAs P fr b.fn b.kind v w'
  | some _ => ∀ c rest, cs = c :: rest → Steps P m (lone (c.finish v) rest w')

theorem Out.of_steps {b : Frame} {cs : List Frame} {m m' : Machine} {v : Value} {w' : World} (h : Steps P m m') (h' : Out P b cs m' v w') : Out P b cs m v w' := by
  unfold Out at *
  split at h'
  · obtain ⟨fr, h1, h2⟩ := h'
    exact ⟨fr, h.trans h1, h2⟩
  · exact fun c rest e => h.trans (h' c rest e)

def roundRel (K : KW) (round : Option Nat) (b : Frame) : Prop := match round with
  | none => b.roundOf = none
  | some l => ∃ L, K.β l = some L ∧ b.roundOf = some L.b ∧ b.kind = .normal

theorem roundRel_mono (hle : K.le K') {round : Option Nat} {b : Frame} (h : roundRel K round b) : roundRel K' round b := by
  cases round with
  | none => exact h
  | some l => obtain ⟨L, hL, r⟩ := h; exact ⟨L, hle.β _ _ hL, r⟩

/-- What runs a frame is sound. -/
def CallSound (P : Program) (call : Call Prop) : Prop :=
  ∀ (fn : FuncId) (tmps : List AV) (todo : List Item) (round : Option Nat) (h : Heap) (Kc : AV → Heap → Prop), call fn tmps todo round h Kc →
    ∀ (K : KW) (w : World) (b : Frame) (a : Act) (cs : List Frame), R K h w → b.fn = fn → roundRel K round b → rels K tmps a.tmps.toList → a.defers = [] →
    ∃ v K' h' w' av, Out P b cs (lone (b.atR a todo) cs w) v w' ∧ rel K' av v ∧ R K' h' w' ∧ Ext K h w K' h' w' ∧ Kc av h'

/-- What is known of some functions is so. -/
def SpOk (P : Program) (sp : Specs Prop) : Prop :=
  ∀ f s, sp f = some s → (∃ fn, P.funcs[f]? = some fn ∧ fn.body.isSome = true) ∧ ∀ args h Kc, s args h Kc → ∀ K w (vs : Array Value), R K h w → rels K args vs.toList → CallsTo P K h w f vs Kc

theorem rels_append : ∀ {as bs : List AV} {vs us : List Value}, rels K as vs → rels K bs us → rels K (as ++ bs) (vs ++ us)
  | [], bs, vs, us, h, k => by cases (h : vs = []); exact k
  | a :: as, bs, vs, us, ⟨v, ws, e, ha, hr⟩, k => by subst e; exact ⟨v, ws ++ us, rfl, ha, rels_append hr k⟩

theorem rels_undef : ∀ (n : Nat) (v : Value), rels K (List.replicate n .undef) (List.replicate n v)
  | 0, v => rfl
  | n + 1, v => ⟨v, List.replicate n v, rfl, trivial, rels_undef n v⟩

theorem run_callFunc (hG : Good P) {f : FuncId} {fn : Func} (hf : P.funcs[f]? = some fn) (hb : fn.body.isSome = true) (args : Array Value) (w : World) : (callFunc f args).run P w = .ok (.enter f args) w := by
  have hn : ¬ fn.name = "runtime.NumGoroutine" := by have := hG f fn hf; simpa using this
  have hb' : ¬ fn.body = none := by intro h; rw [h] at hb; cases hb
  simp [callFunc, hf, hn, hb']

theorem enter_sound (hsp : SpOk P sp) {call : Call Prop} (hc : CallSound P call) {cl : Bool} {f : FuncId} {args : List AV} {vs : Array Value} {Kc : AV → Heap → Prop} (hR : R K h w) (ha : rels K args vs.toList)
    (hk : enterK Alg.prop P cl sp call f args h Kc) : (∃ fn, P.funcs[f]? = some fn ∧ fn.body.isSome = true) ∧ CallsTo P K h w f vs Kc := by
  unfold enterK at hk
  rw [fVs_prop] at hk
  split at hk
  · rename_i s hs
    obtain ⟨h1, h2⟩ := hsp f s hs
    exact ⟨h1, h2 _ _ _ hk _ _ _ hR ha⟩
  · unfold enterF at hk
    split at hk
    rotate_left
    · exact hk.elim
    rename_i fn hf
    split at hk
    rotate_left
    · exact hk.elim
    rename_i c hb
    rw [fLs_prop] at hk
    refine ⟨⟨fn, hf, by rw [hb]; rfl⟩, fun kind cs => ?_⟩
    let b : Frame := { (default : Frame) with fn := f, kind := kind, roundOf := none }
    have henter : Frame.enter P f vs kind = b.atR { tmps := vs ++ Array.replicate (fn.ntmps - vs.size) undef, defers := [] } [.code c] := by
      simp [Frame.enter, Frame.atR, hf, hb, b]
    have hlen := rels_len ha
    rw [Array.length_toList] at hlen
    have hts : rels K (padTo fn.ntmps args) (vs ++ Array.replicate (fn.ntmps - vs.size) undef).toList := by
      rw [Array.toList_append, Array.toList_replicate, hlen]
      exact rels_append ha (rels_undef _ _)
    obtain ⟨v, K', h', w', av, ho, r1, r2, r3, r4⟩ := hc _ _ _ _ _ _ hk K w b { tmps := vs ++ Array.replicate (fn.ntmps - vs.size) undef, defers := [] } cs hR rfl rfl hts rfl
    obtain ⟨fr, s1, s2⟩ := ho
    rw [henter]
    exact ⟨v, K', h', w', av, fr, s1, s2, r1, r2, r3, r4⟩

theorem step_back {fr c : Frame} {cs : List Frame} {f : FuncId} {v : Value} (h : LeavesAs P fr f .normal v w) : step P (lone fr (c :: cs) w) = .next (lone (c.finish v) cs w) := by
  obtain ⟨h1, h2, h3, rfl, h4⟩ := h
  exact step_leave_returned ⟨h1, h2, h3, h4⟩

theorem step_back_def {fr c : Frame} {cs : List Frame} {f : FuncId} {v : Value} (h : LeavesAs P fr f .deferred v w) (hc : c.mode = .returning) : step P (lone fr (c :: cs) w) = .next (lone c cs w) := by
  obtain ⟨h1, h2, h3, rfl, h4⟩ := h
  have := step_going_returned (P := P) (c := c) (cs := cs) (w := w) (v := v) h3 ⟨h1, h2, h4⟩
  rw [this, hc]
  simp [settle, ← hc]

variable {b : Frame} {a : Act} {ops : Array Oper} {i : Nat} {rest : List Nat} {k : List Item} {cs : List Frame} {o : Oper}

theorem fin_at (ho : ops[i]? = some o) (v : Value) : (b.atR a (.inRegion ops (i :: rest) :: k)).finish v = b.atR (a.put o.dst v) (.inRegion ops rest :: k) := by
  rw [Frame.finish_atR, ho]; rfl

theorem step_value (ho : ops[i]? = some o) (hw : Region.wanted o (yielded ops a.tmps) = true) (hd : ∀ c, o.op ≠ .defer c) {v : Value} (hr : (execOp a.eval o).run P w = .ok (.value v) w') :
    step P (lone (b.atR a (.inRegion ops (i :: rest) :: k)) cs w) = .next (lone (b.atR (a.put o.dst v) (.inRegion ops rest :: k)) cs w') := by
  refine step_lone_go ?_
  rw [stepGR_op ho hw, Oper.semAt_eq _ _ _ hd, ← fin_at ho]
  simp [stepG.apply, hr]

theorem step_skipped (ho : ops[i]? = some o) (hw : Region.wanted o (yielded ops a.tmps) = true) (hd : ∀ c, o.op ≠ .defer c) (hr : (execOp a.eval o).run P w = .ok .skip w') :
    step P (lone (b.atR a (.inRegion ops (i :: rest) :: k)) cs w) = .next (lone (b.atR (a.put o.dst undef) (.inRegion ops rest :: k)) cs w') := by
  refine step_lone_go ?_
  rw [stepGR_op ho hw, Oper.semAt_eq _ _ _ hd, ← fin_at ho]
  simp [stepG.apply, hr]

theorem step_enters (ho : ops[i]? = some o) (hw : Region.wanted o (yielded ops a.tmps) = true) (hd : ∀ c, o.op ≠ .defer c) {f : FuncId} {args : Array Value} (hr : (execOp a.eval o).run P w = .ok (.enter f args) w') :
    step P (lone (b.atR a (.inRegion ops (i :: rest) :: k)) cs w) = .next (lone (Frame.enter P f args .normal) (b.atR a (.inRegion ops (i :: rest) :: k) :: cs) w') := by
  refine step_lone_go ?_
  rw [stepGR_op ho hw, Oper.semAt_eq _ _ _ hd]
  simp [stepG.apply, hr, Frame.atR]

theorem step_rounds (ho : ops[i]? = some o) (hw : Region.wanted o (yielded ops a.tmps) = true) (hd : ∀ c, o.op ≠ .defer c) {l : Nat} {f : FuncId} {tmps : Array Value} {assign body : Code} (hr : (execOp a.eval o).run P w = .ok (.round l f tmps assign body) w') :
    step P (lone (b.atR a (.inRegion ops (i :: rest) :: k)) cs w) = .next (lone (Frame.round l f tmps assign body .normal) (b.atR a (.inRegion ops (i :: rest) :: k) :: cs) w') := by
  refine step_lone_go ?_
  rw [stepGR_op ho hw, Oper.semAt_eq _ _ _ hd]
  simp [stepG.apply, hr, Frame.atR]

theorem step_defers (ho : ops[i]? = some o) (hw : Region.wanted o (yielded ops a.tmps) = true) (hb : b.roundOf = none) (hdst : o.dst = none) {d : Deferred} (hr : (execOp a.eval o).run P w = .ok (.defer d) w') :
    step P (lone (b.atR a (.inRegion ops (i :: rest) :: k)) cs w) = .next (lone (b.atR { a with defers := d :: a.defers } (.inRegion ops rest :: k)) cs w') := by
  refine step_lone_go ?_
  rw [stepGR_op ho hw, hb, Oper.semAt_none]
  simp only [stepG.apply, Sem.runT_eq, hr, GStep.bare_after]
  have : ({ b.atR a (.inRegion ops (i :: rest) :: k) with defers := d :: a.defers } : Frame).finish undef = b.atR { a with defers := d :: a.defers } (.inRegion ops rest :: k) := by
    have := Frame.finish_atR b { a with defers := d :: a.defers } ops i rest k undef
    rw [ho, Option.bind_some, hdst] at this
    exact this
  exact congrArg (fun fr => GStep.go { frame := fr, callers := cs, status := .running, dying := none } w') this

end Go.Tw

/- Operations of a region, calls and rounds with them. -/
namespace Go.Tw
open Go

variable {P : Program} {K K' : KW} {h : Heap} {w w' : World} {sp : Specs Prop}
variable {b : Frame} {a : Act} {ops : Array Oper} {i : Nat} {rest : List Nat} {k : List Item} {cs : List Frame} {o : Oper}

theorem setAll_sound {Q : List AV → Prop} : ∀ (ts : List Tmp) (vs : List AV) (us : List Value) (tmps : List AV) (T : Array Value), rels K vs us → rels K tmps T.toList → setAll ts vs tmps Q →
    ∃ tmps', rels K tmps' ((ts.zip us).foldl (fun (T : Array Value) (p : Tmp × Value) => T.setIfInBounds p.1 p.2) T).toList ∧ Q tmps'
  | [], vs, us, tmps, T, _, ht, hk => ⟨tmps, by simpa using ht, by unfold setAll at hk; exact hk⟩
  | t :: ts, [], us, tmps, T, hv, ht, hk => by
    cases (hv : us = [])
    exact ⟨tmps, by simpa using ht, by unfold setAll at hk; exact hk⟩
  | t :: ts, v :: vs, us, tmps, T, ⟨u, ws, e, hv, hr⟩, ht, hk => by
    subst e
    unfold setAll at hk
    rw [setK_prop] at hk
    have h1 : rels K (tmps.set t v) (T.setIfInBounds t u).toList := by rw [Array.toList_setIfInBounds]; exact rels_set hv ht t
    simpa using setAll_sound ts vs ws _ _ hr h1 hk

theorem run_getLoop {l : Nat} {r : Loop} (hb : w.heap[l]? = some (.loop r)) : (Instr.getLoop l).run P w = .ok r w := by
  simp [Instr.getLoop, getObj, Sem.run, hb]

/-- What a call comes to, where its function is a value. -/
theorem target_sound (hG : Good P) (hsp : SpOk P sp) {call : Call Prop} (hc : CallSound P call) {cl : Bool} {f : AV} {args : List AV} {vf : Value} {us : Array Value} {Kc : AV → Heap → Prop} (hR : R K h w) (hf : rel K f vf) (ha : rels K args us.toList)
    (hk : targetK Alg.prop P cl sp call f args h Kc) :
    ∃ d, (∀ w, (Deferred.ofValue vf us).run P w = .ok d w) ∧
      ((∃ g vs, (invoke d.target d.args).run P w = .ok (.enter g vs) w ∧ CallsTo P K h w g vs Kc) ∨
       (∃ l fn T assign body, (invoke d.target d.args).run P w = .ok (.round l fn T assign body) w ∧ ∀ c cs, ∃ v K' h' w' av, Steps P (lone (Frame.round l fn T assign body .normal) (c :: cs) w) (lone (c.finish v) cs w') ∧ rel K' av v ∧ R K' h' w' ∧ Ext K h w K' h' w' ∧ Kc av h')) := by
  unfold targetK at hk
  split at hk
  · rename_i g first cap
    obtain ⟨A, B, rfl, hA, hB⟩ := hf
    have hall : rels K (first ++ (args ++ cap)) ((A ++ us) ++ B).toList := by
      rw [Array.toList_append, Array.toList_append, List.append_assoc]
      exact rels_append hA (rels_append ha hB)
    obtain ⟨⟨fn, hfn, hb⟩, hct⟩ := enter_sound hsp hc hR hall hk
    refine ⟨{ target := .fn (.func g) B, args := A ++ us }, fun w => rfl, .inl ⟨g, (A ++ us) ++ B, ?_, hct⟩⟩
    exact run_callFunc hG hfn hb _ w
  · rename_i l
    obtain ⟨L, hL, rfl⟩ := hf
    unfold roundK at hk
    split at hk
    rotate_left
    · exact hk.elim
    rename_i state pending fn tmps params assign body defers hg
    split at hk
    rotate_left
    · exact hk.elim
    rename_i hlen
    rw [fVs_prop] at hk
    obtain ⟨L', hL', hv, r, hb, hl⟩ := hR.live _ _ hg
    cases hL.symm.trans hL'
    have hul := rels_len ha
    rw [Array.length_toList] at hul
    have hpl : r.params.toList = params := hl.params
    have hps : r.params.size = params.length := by rw [← hpl, Array.length_toList]
    obtain ⟨ts, hts, hq⟩ := setAll_sound params args us.toList tmps r.tmps ha hl.tmps hk
    refine ⟨{ target := .fn (.yield L.b) #[], args := #[] ++ us }, fun w => rfl, .inr ⟨L.b, r.fn, (r.params.zip us).foldl (fun tmps (t, a) => tmps.setIfInBounds t a) r.tmps, r.assign, r.body, ?_, fun c cs => ?_⟩⟩
    · have hne : ¬ (#[] ++ us : Array Value).size ≠ r.params.size := by simp; omega
      simp only [invoke, Instr.yield, Sem.run_bind, run_getLoop hb, Result.andThen_ok, if_neg hne, Sem.run_pure]
      simp
    · let b : Frame := { (default : Frame) with fn := r.fn, kind := .normal, roundOf := some L.b }
      let T := (r.params.zip us).foldl (fun tmps (t, a) => tmps.setIfInBounds t a) r.tmps
      have hT : rels K ts T.toList := by
        have e : (r.params.zip us).foldl (fun (tmps : Array Value) (p : Tmp × Value) => tmps.setIfInBounds p.1 p.2) r.tmps = (params.zip us.toList).foldl (fun (T : Array Value) (p : Tmp × Value) => T.setIfInBounds p.1 p.2) r.tmps := by
          rw [← Array.foldl_toList, Array.toList_zip, hpl]
        show rels K ts ((r.params.zip us).foldl (fun (tmps : Array Value) (p : Tmp × Value) => tmps.setIfInBounds p.1 p.2) r.tmps).toList
        rw [e]; exact hts
      have hfr : Frame.round L.b r.fn T r.assign r.body .normal = b.atR { tmps := T, defers := [] } [.code r.assign, .beginRound, .code r.body] := rfl
      have hq' : call r.fn ts [.code r.assign, .beginRound, .code r.body] (some l) h Kc := by
        rw [hl.fn, hl.assign, hl.body]; exact hq
      obtain ⟨v, K', h', w', av, ho, r1, r2, r3, r4⟩ := hc _ _ _ _ _ _ hq' K w b { tmps := T, defers := [] } (c :: cs) hR rfl ⟨L, hL, rfl, rfl⟩ hT rfl
      refine ⟨v, K', h', w', av, ?_, r1, r2, r3, r4⟩
      have := ho c cs rfl
      exact this
  · exact hk.elim

theorem acts_sound (hG : Good P) (hsp : SpOk P sp) {call : Call Prop} (hc : CallSound P call) {cl : Bool} {tmps : List AV} {Q : AV → Heap → Prop} (ho : ops[i]? = some o) (hw : Region.wanted o (yielded ops a.tmps) = true) (hd : ∀ c, o.op ≠ .defer c)
    (hR : R K h w) (ht : rels K tmps a.tmps.toList) (hk : actsK Alg.prop P cl sp call tmps h o Q) :
    ∃ v K' h' w' av, Steps P (lone (b.atR a (.inRegion ops (i :: rest) :: k)) cs w) (lone (b.atR (a.put o.dst v) (.inRegion ops rest :: k)) cs w') ∧ R K' h' w' ∧ Ext K h w K' h' w' ∧ rel K' av v ∧ Q av h' := by
  have he := eval_rel ht
  have act : actK Alg.prop P cl h (evalO tmps) o Q → ∃ v K' h' w' av, Steps P (lone (b.atR a (.inRegion ops (i :: rest) :: k)) cs w) (lone (b.atR (a.put o.dst v) (.inRegion ops rest :: k)) cs w') ∧ R K' h' w' ∧ Ext K h w K' h' w' ∧ rel K' av v ∧ Q av h' := by
    intro hk
    obtain ⟨res, K', h', w', av, h1, h2, h3, h4, h5⟩ := act_sound hR he (fun v _ => rfl) hk
    rcases h2 with ⟨rfl, rfl⟩ | ⟨v, rfl, hv⟩
    · exact ⟨undef, K', h', w', .undef, .one (step_skipped ho hw hd h1), h3, h4, trivial, h5⟩
    · exact ⟨v, K', h', w', av, .one (step_value ho hw hd h1), h3, h4, hv, h5⟩
  unfold actsK at hk
  split at hk
  · rename_i c hop
    unfold callOpK at hk
    split at hk
    · rename_i f hf
      have hargs : rels K (c.args.toList.map (evalO tmps)) (c.args.map a.eval).toList := by rw [Array.toList_map]; exact rels_map he _
      obtain ⟨d, hd1, hd2⟩ := target_sound hG hsp hc hR (he f) hargs hk
      have hex : (execOp a.eval o).run P w = (invoke d.target d.args).run P w := by
        simp only [execOp, hop, resolve, hf, Sem.run_bind, hd1, Result.andThen_ok]
      rcases hd2 with ⟨g, vs, h1, h2⟩ | ⟨l, fn, T, assign, body, h1, h2⟩
      · obtain ⟨v, K', h', w', av, fr, s1, s2, r1, r2, r3, r4⟩ := h2 .normal (b.atR a (.inRegion ops (i :: rest) :: k) :: cs)
        refine ⟨v, K', h', w', av, ?_, r2, r3, r1, r4⟩
        refine .head (step_enters ho hw hd (hex.trans h1)) (s1.trans (.one ?_))
        rw [← fin_at ho]
        exact step_back s2
      · obtain ⟨v, K', h', w', av, s1, r1, r2, r3, r4⟩ := h2 (b.atR a (.inRegion ops (i :: rest) :: k)) cs
        refine ⟨v, K', h', w', av, ?_, r2, r3, r1, r4⟩
        refine .head (step_rounds ho hw hd (hex.trans h1)) ?_
        rw [← fin_at ho]
        exact s1
    · exact act hk
    · exact hk.elim
  · exact act hk

theorem oper_sound (hG : Good P) (hsp : SpOk P sp) {call : Call Prop} (hc : CallSound P call) {cl : Bool} {tmps : List AV} {Kc : List AV → Heap → Prop} (ho : ops[i]? = some o) (hw : Region.wanted o (yielded ops a.tmps) = true) (hd : ∀ c, o.op ≠ .defer c)
    (hR : R K h w) (ht : rels K tmps a.tmps.toList) (hk : operK Alg.prop P cl sp call tmps h o Kc) :
    ∃ v K' h' w' av, Steps P (lone (b.atR a (.inRegion ops (i :: rest) :: k)) cs w) (lone (b.atR (a.put o.dst v) (.inRegion ops rest :: k)) cs w') ∧ R K' h' w' ∧ Ext K h w K' h' w' ∧ rel K' av v ∧ Kc (putL tmps o.dst av) h' := by
  have he := eval_rel ht
  unfold operK at hk
  split at hk
  · obtain ⟨v, av, h1, h2, h3⟩ := pure_sound he hk
    rw [putK_prop] at h3
    exact ⟨v, K, h, w, av, .one (step_value ho hw hd (h1 w)), hR, .refl _ _ _, h2, h3⟩
  · obtain ⟨v, av, h1, h2, h3⟩ := read_sound hR he hk
    rw [putK_prop] at h3
    exact ⟨v, K, h, w, av, .one (step_value ho hw hd h1), hR, .refl _ _ _, h2, h3⟩
  · obtain ⟨v, K', h', w', av, s, r1, r2, r3, r4⟩ := acts_sound (b := b) (rest := rest) (k := k) (cs := cs) hG hsp hc ho hw hd hR ht hk
    rw [putK_prop] at r4
    exact ⟨v, K', h', w', av, s, r1, r2, r3, r4⟩

theorem seq_go (hG : Good P) (hsp : SpOk P sp) {call : Call Prop} (hc : CallSound P call) {cl : Bool} {round : Option Nat} {Kc : SeqK Prop} : ∀ (os : List Oper) (pre : List Oper) (tmps : List AV) (defers : List ADef) (a : Act) (K : KW) (h : Heap) (w : World), ops.toList = pre ++ os → R K h w → roundRel K round b → rels K tmps a.tmps.toList → defsRel K defers a.defers →
    seqK Alg.prop P cl sp call ops.toList round os Kc tmps defers h →
    ∃ ts ds a' K' h' w', Steps P (lone (b.atR a (.inRegion ops (List.range' pre.length os.length) :: k)) cs w) (lone (b.atR a' k) cs w') ∧ R K' h' w' ∧ Ext K h w K' h' w' ∧ rels K' ts a'.tmps.toList ∧ defsRel K' ds a'.defers ∧ Kc ts ds h'
  | [], pre, tmps, defers, a, K, h, w, _, hR, _, ht, hds, hk => ⟨tmps, defers, a, K, h, w, .one stepR_region_end, hR, .refl _ _ _, ht, hds, hk⟩
  | o :: os, pre, tmps, defers, a, K, h, w, hops, hR, hro, ht, hds, hk => by
    have hi : ops[pre.length]? = some o := by rw [← Array.getElem?_toList, hops]; simp
    have hk : guardK Alg.prop ops.toList o.guard tmps (doOper Alg.prop P cl sp call defers round h o (seqK Alg.prop P cl sp call ops.toList round os Kc)) (skipOper cl defers h o (seqK Alg.prop P cl sp call ops.toList round os Kc)) := hk
    have hnext : ops.toList = (pre ++ [o]) ++ os := by rw [hops]; simp
    have hrange : List.range' pre.length (o :: os).length = pre.length :: List.range' (pre ++ [o]).length os.length := by
      rw [List.length_cons, List.range'_succ]; simp
    rw [hrange]
    obtain ⟨ts, hts, ⟨hw, hk⟩ | ⟨hw, hk⟩⟩ := guard_sound ht hk
    · unfold doOper at hk
      split at hk
      · rename_i c hop
        unfold deferK at hk
        split at hk
        · exact hk.elim
        · exact hk.elim
        · rename_i hdst _ _
          split at hk
          rotate_left
          · exact hk.elim
          rename_i f hf
          split at hk
          rotate_left
          · exact hk.elim
          rename_i g first cap hef
          rw [fVs_prop] at hk
          have he := eval_rel hts
          have hfr := he f
          rw [hef] at hfr
          obtain ⟨A, B, hv, hA, hB⟩ := hfr
          have hargs : rels K (c.args.toList.map (evalO ts)) (c.args.map a.eval).toList := by rw [Array.toList_map]; exact rels_map he _
          have hex : (execOp a.eval o).run P w = .ok (.defer { target := .fn (.func g) B, args := A ++ c.args.map a.eval }) w := by
            simp [execOp, hop, resolve, hf, hv, Deferred.ofValue]
          have hro' : b.roundOf = none := hro
          have hd : defRel K (.call g (first ++ (c.args.toList.map (evalO ts) ++ cap))) { target := .fn (.func g) B, args := A ++ c.args.map a.eval } := by
            refine ⟨B, _, rfl, ?_⟩
            rw [Array.toList_append, Array.toList_append, List.append_assoc]
            exact rels_append hA (rels_append hargs hB)
          obtain ⟨ts', ds', a', K', h', w', s, r⟩ := seq_go hG hsp hc os (pre ++ [o]) ts _ { a with defers := { target := .fn (.func g) B, args := A ++ c.args.map a.eval } :: a.defers } K h w hnext hR hro hts (show defsRel K (.call g (first ++ (c.args.toList.map (evalO ts) ++ cap)) :: defers) ({ target := .fn (.func g) B, args := A ++ c.args.map a.eval } :: a.defers) from ⟨_, _, rfl, hd, hds⟩) hk
          exact ⟨ts', ds', a', K', h', w', .head (step_defers hi hw hro' hdst hex) s, r⟩
      · rename_i hnd
        obtain ⟨v, K1, h1, w1, av, s1, hR1, hE1, hv, hk⟩ := oper_sound (b := b) (rest := List.range' (pre ++ [o]).length os.length) (k := k) (cs := cs) hG hsp hc hi hw (fun c e => hnd c e) hR hts hk
        have ht1 := put_rel (rels_mono hE1.le _ _ hts) hv o.dst
        have hd1 : defsRel K1 defers (a.put o.dst v).defers := by rw [put_defers]; exact defsRel_mono hE1.le hds
        obtain ⟨ts', ds', a', K', h', w', s, r1, r2, r3⟩ := seq_go hG hsp hc os (pre ++ [o]) _ _ (a.put o.dst v) K1 h1 w1 hnext hR1 (roundRel_mono hE1.le hro) ht1 hd1 hk
        exact ⟨ts', ds', a', K', h', w', s1.trans s, r1, hE1.trans r2, r3⟩
    · have hk : putK cl false ts o.dst (.tup []) (fun ts => seqK Alg.prop P cl sp call ops.toList round os Kc ts defers h) := hk
      rw [putK_prop] at hk
      have ht1 : rels K (putL ts o.dst (.tup [])) (a.put o.dst undef).tmps.toList := put_rel (av := .tup []) (v := undef) hts ⟨#[], rfl, rfl⟩ o.dst
      have hd1 : defsRel K defers (a.put o.dst undef).defers := by rw [put_defers]; exact hds
      obtain ⟨ts', ds', a', K', h', w', s, r⟩ := seq_go hG hsp hc os (pre ++ [o]) _ _ (a.put o.dst undef) K h w hnext hR hro ht1 hd1 hk
      refine ⟨ts', ds', a', K', h', w', .head ?_ s, r⟩
      have := stepR_op_skip (P := P) (b := b) (a := a) (k := k) (cs := cs) (w := w) (ops := ops) (i := pre.length) (rest := List.range' (pre ++ [o]).length os.length) (by rw [hi]; exact hw)
      rw [hi] at this
      exact this

end Go.Tw

/- Frames. -/
namespace Go.Tw
open Go

variable {P : Program} {K K' : KW} {h : Heap} {w w' : World} {sp : Specs Prop}

/-- Regions whose order is open are sound. -/
def OpenOk (P : Program) (cl : Bool) (sp : Specs Prop) : Prop :=
  ∀ (call : Call Prop), CallSound P call → ∀ (ops : Array Oper) (plan : List Step) (tmps : List AV) (h : Heap) (Kc : List AV → Heap → Prop), planOf P ops.toList = some plan → openK Alg.prop P cl sp call ops.toList plan tmps h [] Kc →
    ∀ (K : KW) (w : World) (b : Frame) (a : Act) (cs : List Frame) (k : List Item) (t : Nat), R K h w → rels K tmps a.tmps.toList →
    ∃ ts a' K' h' w', Steps P (lone (b.atR a (.inRegion ops (Region.schedule (P.follows .mixedOrders) ops t) :: k)) cs w) (lone (b.atR a' k) cs w') ∧ R K' h' w' ∧ Ext K h w K' h' w' ∧ rels K' ts a'.tmps.toList ∧ a'.defers = a.defers ∧ Kc ts h'

/-- The frame as it stands. -/
def frameOf (leaving : Bool) (b : Frame) (a : Act) (todo : List Item) : Frame := match leaving with
  | true => { b.atR a todo with mode := .returning }
  | false => b.atR a todo

/-- What runs a frame on is sound. -/
def RunOk (P : Program) (again : Again Prop) : Prop :=
  ∀ (leaving : Bool) (fn : FuncId) (tmps : List AV) (todo : List Item) (defers : List ADef) (round : Option Nat) (h : Heap) (Kc : AV → Heap → Prop), again leaving fn tmps todo defers round h Kc →
    ∀ (K : KW) (w : World) (b : Frame) (a : Act) (cs : List Frame) (td : List Item), R K h w → b.fn = fn → roundRel K round b → (leaving = true → round = none) → (leaving = false → td = todo) → rels K tmps a.tmps.toList → defsRel K defers a.defers →
    ∃ v K' h' w' av, Out P b cs (lone (frameOf leaving b a td) cs w) v w' ∧ rel K' av v ∧ R K' h' w' ∧ Ext K h w K' h' w' ∧ Kc av h'

theorem RunOk.call {again : Again Prop} (hr : RunOk P again) : CallSound P (callA again) := by
  intro fn tmps todo round h Kc hk K w b a cs hR hf hro ht hd
  exact hr false fn tmps todo [] round h Kc hk K w b a cs todo hR hf hro (fun h => by cases h) (fun _ => rfl) ht (by rw [hd]; rfl)

theorem load_addr {h : Heap} {w : World} (hR : R K h w) {t : TypeId} {x : AV} {v : Value} {Q : AV → Prop} (hx : rel K x v) (hk : loadK Alg.prop P h t x Q) : ∃ ad u av, v = .pointer (some ad) ∧ (loadVar t ad).run P w = .ok u w ∧ rel K av u ∧ Q av := by
  obtain ⟨u, av, h1, h2, h3⟩ := load_sound hR hx hk
  unfold loadK at hk
  split at hk
  · obtain ⟨L, _, _, rfl⟩ := hx; exact ⟨_, u, av, rfl, h1, h2, h3⟩
  · obtain ⟨L, _, _, rfl, _⟩ := hx; exact ⟨_, u, av, rfl, h1, h2, h3⟩
  · obtain ⟨_, _, _, _, _, _, _, _, rfl⟩ := hx; exact ⟨_, u, av, rfl, h1, h2, h3⟩
  · exact hk.elim

def resF (T : Array Value) : ResultVar → Sem Value
  | .tmp t => pure (T.getD t undef)
  | .cell a t => do loadVar t (← asAddr (T.getD a undef))

theorem results_eq (fn : Func) (T : Array Value) : results fn T = (do let vs ← fn.results.mapM (resF T); pure (if h : vs.size = 1 then vs[0] else .tuple vs)) := by
  unfold results
  congr 1

theorem results_sound {cl : Bool} (hR : R K h w) {tmps : List AV} {T : Array Value} (ht : rels K tmps T.toList) : ∀ (rs : List ResultVar) (Q : List AV → Prop), resultsK Alg.prop P cl h tmps rs Q →
    ∃ vs avs, (rs.mapM (resF T)).run P w = .ok vs w ∧ rels K avs vs ∧ Q avs
  | [], Q, hk => ⟨[], [], by simp, rfl, hk⟩
  | .tmp t :: rs, Q, hk => by
    simp only [resultsK] at hk
    rw [fS_eq] at hk
    obtain ⟨vs, avs, h1, h2, h3⟩ := results_sound hR ht rs _ hk
    have hn := eval_rel (a := ⟨T, []⟩) ht (.tmp t)
    exact ⟨T.getD t undef :: vs, nth tmps t :: avs, by simp only [List.mapM_cons, resF, Sem.run_bind, Sem.run_pure, h1, Result.andThen_ok], ⟨_, _, rfl, hn, h2⟩, h3⟩
  | .cell x t :: rs, Q, hk => by
    simp only [resultsK] at hk
    have hn := eval_rel (a := ⟨T, []⟩) ht (.tmp x)
    obtain ⟨ad, u, av, e, h1, h2, h3⟩ := load_addr hR hn hk
    rw [fS_eq] at h3
    obtain ⟨vs, avs, h4, h5, h6⟩ := results_sound hR ht rs _ h3
    have e : T.getD x undef = .pointer (some ad) := e
    exact ⟨u :: vs, av :: avs, by
      have hp : (asAddr (T.getD x undef)).run P w = .ok ad w := by rw [e]; rfl
      simp only [List.mapM_cons, resF, Sem.run_bind, Sem.run_pure, hp, h4, h1, Result.andThen_ok], ⟨_, _, rfl, h2, h5⟩, h6⟩

theorem back_sound {cl : Bool} (hR : R K h w) {fn : FuncId} {tmps : List AV} {T : Array Value} (ht : rels K tmps T.toList) {Kc : AV → Heap → Prop} (hk : backK Alg.prop P cl fn tmps h Kc) :
    ∃ f v av, P.funcs[fn]? = some f ∧ (results f T).run P w = .ok v w ∧ rel K av v ∧ Kc av h := by
  unfold backK at hk
  split at hk
  rotate_left
  · exact hk.elim
  rename_i f hf
  obtain ⟨vs, avs, h1, h2, h3⟩ := results_sound (P := P) hR ht _ _ hk
  have h4 : (f.results.mapM (resF T)).run P w = .ok vs.toArray w := by
    rw [Array.mapM_eq_mapM_toList, Sem.run_map, h1]; rfl
  refine ⟨f, ?_⟩
  cases avs with
  | nil =>
    cases (h2 : vs = [])
    exact ⟨.tuple #[], .tup [], hf, by rw [results_eq, Sem.run_bind, h4]; rfl, ⟨#[], rfl, rfl⟩, h3⟩
  | cons x avs =>
    obtain ⟨v, ws, e, hx, hr⟩ := h2
    subst e
    cases avs with
    | nil =>
      cases (hr : ws = [])
      exact ⟨v, x, hf, by rw [results_eq, Sem.run_bind, h4]; rfl, hx, h3⟩
    | cons y avs =>
      have hr' := hr
      obtain ⟨v2, ws2, e2, _, _⟩ := hr
      subst e2
      refine ⟨.tuple (v :: v2 :: ws2).toArray, .tup (x :: y :: avs), hf, ?_, ⟨_, rfl, ?_⟩, h3⟩
      · rw [results_eq, Sem.run_bind, h4]
        simp
      · exact ⟨v, _, rfl, hx, hr'⟩

end Go.Tw

/- Frames that leave. -/
namespace Go.Tw
open Go

variable {P : Program} {K K' : KW} {h : Heap} {w w' : World} {sp : Specs Prop} {cl : Bool} {again : Again Prop}

/-- What a frame comes to, in one word. -/
def Goes (P : Program) (K : KW) (h : Heap) (w : World) (b : Frame) (cs : List Frame) (m : Machine) (Kc : AV → Heap → Prop) : Prop :=
  ∃ v K' h' w' av, Out P b cs m v w' ∧ rel K' av v ∧ R K' h' w' ∧ Ext K h w K' h' w' ∧ Kc av h'

theorem Goes.of_steps {b : Frame} {cs : List Frame} {m m' : Machine} {Kc : AV → Heap → Prop} {K1 : KW} {h1 : Heap} {w1 : World} (hs : Steps P m m') (hE : Ext K h w K1 h1 w1) (hg : Goes P K1 h1 w1 b cs m' Kc) : Goes P K h w b cs m Kc := by
  obtain ⟨v, K', h', w', av, ho, r1, r2, r3, r4⟩ := hg
  exact ⟨v, K', h', w', av, ho.of_steps hs, r1, r2, hE.trans r3, r4⟩

theorem unwind_sound (hG : Good P) (hsp : SpOk P sp) (hr : RunOk P again) {fn : FuncId} {tmps : List AV} {defers : List ADef} {Kc : AV → Heap → Prop} (hk : unwindK Alg.prop P cl sp again fn tmps defers h Kc)
    {b : Frame} {a : Act} {cs : List Frame} {td : List Item} (hR : R K h w) (hf : b.fn = fn) (hro : b.roundOf = none) (ht : rels K tmps a.tmps.toList) (hd : defsRel K defers a.defers) :
    Goes P K h w b cs (lone (frameOf true b a td) cs w) Kc := by
  unfold unwindK at hk
  split at hk
  · obtain ⟨f, v, av, h1, h2, h3, h4⟩ := back_sound hR ht hk
    have hnil : a.defers = [] := hd
    refine ⟨v, K, h, w, av, ?_, h3, hR, .refl _ _ _, h4⟩
    unfold Out
    rw [hro]
    exact ⟨_, .refl _ _, rfl, hnil, rfl, rfl, f, hf ▸ h1, h2⟩
  · rename_i id ds
    split at hk
    rotate_left
    · exact hk.elim
    rename_i calls hg
    rw [Heap.setK_eq] at hk
    obtain ⟨d, rest, ed, hdm, hrest⟩ := hd
    obtain ⟨L, hL, rfl⟩ := hdm
    obtain ⟨L', hL', hv, c, hb, hc⟩ := hR.live _ _ hg
    cases hL.symm.trans hL'
    cases c with
    | none => exact hc.elim
    | some ds' =>
      have hbs : L.b < w.heap.size := (Array.getElem?_eq_some_iff.1 hb).1
      have htake : (Instr.takeDeferred L.b).run P w = .ok ds' (putB w L.b (.deferred none)) := by
        simp [Instr.takeDeferred, getObj, setObj, Sem.run, hb, putB]
      obtain ⟨q1, q2⟩ := hR.setB (o := .deferred none) (blk := .defd none) hg hL hv ⟨hv, none, putB_self hbs, trivial⟩ (by simp) (by simp)
      have hstep := step_collected (P := P) (fr := frameOf true b a td) (cs := cs) (w := w) (by simp [frameOf]) ed rfl htake
      have happ : ∀ {xs ys : List ADef} {us vs : List Deferred}, defsRel K xs us → defsRel K ys vs → defsRel K (xs ++ ys) (us ++ vs) := by
        intro xs
        induction xs with
        | nil => intro ys us vs h1 h2; cases (h1 : us = []); exact h2
        | cons x xs ih => intro ys us vs h1 h2; obtain ⟨d, r, e, h3, h4⟩ := h1; subst e; exact ⟨d, r ++ vs, rfl, h3, ih h4 h2⟩
      refine Goes.of_steps (.one hstep) q2 ?_
      exact hr true fn tmps [] _ none _ Kc hk K _ b { a with defers := ds' ++ rest } cs td q1 hf hro (fun _ => rfl) (fun h => by cases h) ht (happ hc hrest)
  · rename_i f args ds
    obtain ⟨d, rest, ed, hdc, hrest⟩ := hd
    obtain ⟨cap, as, rfl, hargs⟩ := hdc
    obtain ⟨⟨fo, hfo, hbo⟩, hct⟩ := enter_sound hsp hr.call hR hargs hk
    obtain ⟨v, K1, h1, w1, av, fr, s1, s2, r1, r2, r3, r4⟩ := hct .deferred ({ frameOf true b a td with defers := rest } :: cs)
    have hstep := step_defer (P := P) (fr := frameOf true b a td) (cs := cs) (w := w) (by simp [frameOf]) ed rfl (run_callFunc hG hfo hbo (as ++ cap) w)
    have hback := step_back_def (c := { frameOf true b a td with defers := rest }) (cs := cs) s2 rfl
    refine Goes.of_steps (.head hstep (s1.trans (.one hback))) r3 ?_
    exact hr true fn tmps [] ds none h1 Kc r4 K1 w1 b { a with defers := rest } cs td r2 hf hro (fun _ => rfl) (fun h => by cases h) (rels_mono r3.le _ _ ht) (defsRel_mono r3.le hrest)

end Go.Tw

/- Frames that go on; runs. -/
namespace Go.Tw
open Go

variable {P : Program} {K K' : KW} {h : Heap} {w w' : World} {sp : Specs Prop} {cl : Bool} {again : Again Prop}
variable {fn : FuncId} {tmps : List AV} {defers : List ADef} {round : Option Nat} {Kc : AV → Heap → Prop} {b : Frame} {a : Act} {cs : List Frame} {k : List Item}

theorem run_setLoop {l : Nat} {r : Loop} (hb : w.heap[l]? = some (.loop r)) (o : Obj) : (setObj l o).run P w = .ok () (putB w l o) := by
  simp [setObj, Sem.run, hb, putB]

/-- On with the frame. -/
theorem goes_on (hr : RunOk P again) (hk : again false fn tmps k defers round h Kc) (hR : R K h w) (hf : b.fn = fn) (hro : roundRel K round b) (ht : rels K tmps a.tmps.toList) (hd : defsRel K defers a.defers) : Goes P K h w b cs (lone (b.atR a k) cs w) Kc :=
  hr false fn tmps k defers round h Kc hk K w b a cs k hR hf hro (fun h => by cases h) (fun _ => rfl) ht hd

theorem endRound_sound {l : Nat} {jump : Option Code} (hk : endRoundK Alg.prop jump l h Kc) (hR : R K h w) {L : Loc} (hL : K.β l = some L) :
    ∃ v w' h' av, (Instr.endRound L.b jump).run P w = .ok v w' ∧ rel K av v ∧ R K h' w' ∧ Ext K h w K h' w' ∧ Kc av h' := by
  unfold endRoundK at hk
  split at hk
  rotate_left
  · exact hk.elim
  rename_i state pending fn tmps params assign body defers hg
  obtain ⟨L', hL', hv, r, hb, hl⟩ := hR.live _ _ hg
  cases hL.symm.trans hL'
  have hbs : L.b < w.heap.size := (Array.getElem?_eq_some_iff.1 hb).1
  split at hk
  · rw [Heap.setK_eq] at hk
    obtain ⟨q1, q2⟩ := hR.setB (o := .loop { r with state := .ready, pending := none }) (blk := .loop ⟨.ready, none, fn, tmps, params, assign, body, defers⟩) hg hL hv ⟨hv, _, putB_self hbs, ⟨rfl, rfl, hl.fn, hl.tmps, hl.params, hl.assign, hl.body, hl.defers⟩⟩ (by simp) (by simp)
    exact ⟨.bool true, _, _, .bool true, by simp [Instr.endRound, run_getLoop hb, run_setLoop hb], rfl, q1, q2, hk⟩
  · rename_i j
    rw [Heap.setK_eq] at hk
    obtain ⟨q1, q2⟩ := hR.setB (o := .loop { r with state := .done, pending := some j }) (blk := .loop ⟨.done, some j, fn, tmps, params, assign, body, defers⟩) hg hL hv ⟨hv, _, putB_self hbs, ⟨rfl, rfl, hl.fn, hl.tmps, hl.params, hl.assign, hl.body, hl.defers⟩⟩ (by simp) (by simp)
    exact ⟨.bool false, _, _, .bool false, by simp [Instr.endRound, run_getLoop hb, run_setLoop hb], rfl, q1, q2, hk⟩

/-- A frame comes to its end. -/
theorem leave_sound (hr : RunOk P again) {jump : Option Code} {m : Machine} (hk : leaveK Alg.prop again fn tmps defers round jump h Kc) (hR : R K h w) (hf : b.fn = fn) (hro : roundRel K round b) (ht : rels K tmps a.tmps.toList) (hd : defsRel K defers a.defers)
    (hplain : b.roundOf = none → (jump = none ∨ jump = some .ret) → ∃ td, step P m = .next (lone (frameOf true b a td) cs w))
    (hround : ∀ l v w' c rest, b.roundOf = some l → b.kind = .normal → cs = c :: rest → (Instr.endRound l jump).run P w = .ok v w' → step P m = .next (lone (c.finish v) rest w')) :
    Goes P K h w b cs m Kc := by
  unfold leaveK at hk
  split at hk
  · rename_i l
    obtain ⟨L, hL, hb, hkind⟩ := hro
    obtain ⟨v, w', h', av, h1, h2, h3, h4, h5⟩ := endRound_sound (P := P) hk hR hL
    refine ⟨v, K, h', w', av, ?_, h2, h3, h4, h5⟩
    unfold Out
    rw [hb]
    exact fun c rest e => .one (hround _ _ _ _ _ hb hkind e h1)
  · have hgo : (jump = none ∨ jump = some .ret) → again true fn tmps [] defers none h Kc → Goes P K h w b cs m Kc := by
      intro hj hk
      obtain ⟨td, hs⟩ := hplain hro hj
      exact Goes.of_steps (.one hs) (.refl _ _ _) (hr true fn tmps [] defers none h Kc hk K w b a cs td hR hf hro (fun _ => rfl) (fun h => by cases h) ht hd)
    split at hk
    · exact hgo (.inl rfl) hk
    · exact hgo (.inr rfl) hk
    · exact hk.elim

theorem beginRound_sound (hr : RunOk P again) (hk : beginRoundK Alg.prop again fn tmps k defers round h Kc) (hR : R K h w) (hf : b.fn = fn) (hro : roundRel K round b) (ht : rels K tmps a.tmps.toList) (hd : defsRel K defers a.defers) :
    Goes P K h w b cs (lone (b.atR a (.beginRound :: k)) cs w) Kc := by
  unfold beginRoundK at hk
  split at hk
  rotate_left
  · exact hk.elim
  rename_i l
  split at hk
  rotate_left
  · exact hk.elim
  rename_i state pending fn' tmps' params assign body defers' hg
  split at hk
  rotate_left
  · exact hk.elim
  rename_i hready
  rw [Heap.setK_eq] at hk
  obtain ⟨L, hL, hb0, hkind⟩ := hro
  obtain ⟨L', hL', hv, r, hb, hl⟩ := hR.live _ _ hg
  cases hL.symm.trans hL'
  have hbs : L.b < w.heap.size := (Array.getElem?_eq_some_iff.1 hb).1
  obtain ⟨q1, q2⟩ := hR.setB (o := .loop { r with state := .busy }) (blk := .loop ⟨.busy, pending, fn', tmps', params, assign, body, defers'⟩) hg hL hv ⟨hv, _, putB_self hbs, ⟨rfl, hl.pending, hl.fn, hl.tmps, hl.params, hl.assign, hl.body, hl.defers⟩⟩ (by simp) (by simp)
  have hst : r.state = .ready := hl.state
  have hrun : (Instr.beginRound L.b).run P w = .ok () (putB w L.b (.loop { r with state := .busy })) := by
    simp [Instr.beginRound, run_getLoop hb, run_setLoop hb, hst]
  exact Goes.of_steps (.one (stepR_beginRound hb0 hrun)) q2 (goes_on hr hk q1 hf ⟨L, hL, hb0, hkind⟩ ht hd)

end Go.Tw

/- Range over functions; code; runs. -/
namespace Go.Tw
open Go

variable {P : Program} {K K' : KW} {h : Heap} {w w' : World} {sp : Specs Prop} {cl : Bool} {again : Again Prop}
variable {fn : FuncId} {tmps : List AV} {defers : List ADef} {round : Option Nat} {Kc : AV → Heap → Prop} {b : Frame} {a : Act} {cs : List Frame} {k : List Item}

theorem endLoop_sound (hr : RunOk P again) {l : Nat} {L : Loc} (hL : K.β l = some L) (hk : endLoopK Alg.prop again fn tmps k defers round l h Kc) (hR : R K h w) (hf : b.fn = fn) (hro : roundRel K round b) (ht : rels K tmps a.tmps.toList) (hd : defsRel K defers a.defers) :
    Goes P K h w b cs (lone (b.atR a (.endRangeFunc L.b :: k)) cs w) Kc := by
  unfold endLoopK at hk
  split at hk
  rotate_left
  · exact hk.elim
  rename_i state pending fn' tmps' params assign body defers' hg
  obtain ⟨L', hL', hv, r, hb, hl⟩ := hR.live _ _ hg
  cases hL.symm.trans hL'
  have hbs : L.b < w.heap.size := (Array.getElem?_eq_some_iff.1 hb).1
  have main : state ≠ .busy → (h.setK l (.loop ⟨.exhausted, pending, fn', tmps', params, assign, body, defers'⟩) fun h => match (generalizing := false) pending with
      | some j => again false fn tmps (.code j :: k) defers round h Kc
      | none => again false fn tmps k defers round h Kc) → Goes P K h w b cs (lone (b.atR a (.endRangeFunc L.b :: k)) cs w) Kc := by
    intro hne hk
    rw [Heap.setK_eq] at hk
    obtain ⟨q1, q2⟩ := hR.setB (o := .loop { r with state := .exhausted }) (blk := .loop ⟨.exhausted, pending, fn', tmps', params, assign, body, defers'⟩) hg hL hv ⟨hv, _, putB_self hbs, ⟨rfl, hl.pending, hl.fn, hl.tmps, hl.params, hl.assign, hl.body, hl.defers⟩⟩ (by simp) (by simp)
    have hst : r.state = state := hl.state
    have hpe : r.pending = pending := hl.pending
    have hrun : (Instr.endLoop L.b).run P w = .ok pending (putB w L.b (.loop { r with state := .exhausted })) := by
      have : ¬ (r.state == .busy) = true := by rw [hst]; simpa using hne
      simp [Instr.endLoop, run_getLoop hb, run_setLoop hb, hst, hne, hpe]
    have hstep := stepR_endRangeFunc (P := P) (b := b) (a := a) (k := k) (cs := cs) hrun
    cases pending with
    | none => exact Goes.of_steps (.one hstep) q2 (goes_on hr hk q1 hf hro ht hd)
    | some j => exact Goes.of_steps (.one hstep) q2 (goes_on hr hk q1 hf hro ht hd)
  split at hk
  · exact hk.elim
  · rename_i hne
    exact main (fun e => hne e) hk

theorem loop_sound (hG : Good P) (hsp : SpOk P sp) (hr : RunOk P again) {f : Operand} {params : Array Tmp} {assign body : Code} {mine : Nat} {M : Loc} {mark : List Deferred} {w0 : World} (hM : K.β mine = some M)
    (hk : loopK Alg.prop P cl sp again fn tmps (evalO tmps f) params.toList assign body k defers round mine h Kc) (hR : R K h w) (hf : b.fn = fn) (hro : roundRel K round b) (ht : rels K tmps a.tmps.toList) (hd : defsRel K defers (mark ++ a.defers))
    (henter : (Instr.enterLoop b.fn a.tmps params assign body b.roundOf).run P w0 = .ok (w.heap.size, mark) { w with heap := w.heap.push (.loop { state := .ready, pending := none, fn := b.fn, tmps := a.tmps, params := params, assign := assign, body := body, defers := M.b }) }) :
    ∀ {K0 : KW} {h0 : Heap}, Ext K0 h0 w0 K h w → Goes P K0 h0 w0 b cs (lone (b.atR a (.code (.rangeFunc f params assign body) :: k)) cs w0) Kc := by
  intro K0 h0 hE0
  unfold loopK at hk
  rw [Heap.newK_eq] at hk
  have hle : K.le (K.new h.next (cellLoc w 0)) := KW.le_new hR.fresh
  obtain ⟨q1, q2⟩ := hR.push (o := .loop { state := .ready, pending := none, fn := b.fn, tmps := a.tmps, params := params, assign := assign, body := body, defers := M.b }) (L := cellLoc w 0) (blk := .loop ⟨.ready, none, fn, tmps, params.toList, assign, body, mine⟩) rfl rfl
    ⟨rfl, { state := .ready, pending := none, fn := b.fn, tmps := a.tmps, params := params, assign := assign, body := body, defers := M.b }, by simp [cellLoc], ⟨rfl, rfl, hf, rels_mono hle _ _ ht, rfl, rfl, rfl, M, hle.β _ _ hM, rfl⟩⟩ (by simp)
  split at hk
  rotate_left
  · exact hk.elim
  rename_i g first cap hef
  have hfr := eval_rel (a := { a with defers := mark ++ a.defers }) ht f
  rw [hef] at hfr
  obtain ⟨A, B, hv, hA, hB⟩ := hfr
  have hyl : rel (K.new h.next (cellLoc w 0)) (.yld h.next) (.func (.yield w.heap.size) #[] #[]) := ⟨_, KW.new_self, rfl⟩
  have hall : rels (K.new h.next (cellLoc w 0)) (first ++ (.yld h.next :: cap)) ((A ++ #[Value.func (.yield w.heap.size) #[] #[]]) ++ B).toList := by
    rw [Array.toList_append, Array.toList_append, List.append_assoc]
    exact rels_append (rels_mono hle _ _ hA) ⟨_, _, rfl, hyl, rels_mono hle _ _ hB⟩
  obtain ⟨⟨fo, hfo, hbo⟩, hct⟩ := enter_sound hsp hr.call q1 hall hk
  obtain ⟨v, K1, h1, w1, av, fr, s1, s2, r1, r2, r3, r4⟩ := hct .normal (b.atR { a with defers := mark ++ a.defers } (.inRangeFunc w.heap.size :: k) :: cs)
  have hres : (resolve a.eval (rangeCall f w.heap.size) 0).run P { w with heap := w.heap.push (.loop { state := .ready, pending := none, fn := b.fn, tmps := a.tmps, params := params, assign := assign, body := body, defers := M.b }) } = .ok { target := .fn (.func g) B, args := A ++ #[Value.func (.yield w.heap.size) #[] #[]] } { w with heap := w.heap.push (.loop { state := .ready, pending := none, fn := b.fn, tmps := a.tmps, params := params, assign := assign, body := body, defers := M.b }) } := by
    have hv' : a.eval f = .func (.func g) A B := hv
    have hm : (#[Operand.const (.func (.yield w.heap.size) #[] #[])]).map a.eval = #[Value.func (.yield w.heap.size) #[] #[]] := by simp [Act.eval]
    show (Deferred.ofValue (a.eval f) ((#[Operand.const (.func (.yield w.heap.size) #[] #[])]).map a.eval)).run P _ = _
    rw [hv', hm]
    rfl
  have hstep := stepR_rangeFunc (P := P) (b := b) (a := a) (k := k) (cs := cs) henter hres (run_callFunc hG hfo hbo ((A ++ #[Value.func (.yield w.heap.size) #[] #[]]) ++ B) _)
  have hback := step_back (c := b.atR { a with defers := mark ++ a.defers } (.inRangeFunc w.heap.size :: k)) (cs := cs) s2
  have hE := (hE0.trans q2).trans r3
  refine Goes.of_steps (.head hstep (s1.trans (.one hback))) hE ?_
  have hle1 := hle.trans r3.le
  exact endLoop_sound (a := { a with defers := mark ++ a.defers }) hr (L := cellLoc w 0) (r3.le.β _ _ KW.new_self) r4 r2 hf (roundRel_mono hle1 hro) (rels_mono hle1 _ _ ht) (defsRel_mono hle1 hd)

end Go.Tw

/- Code; runs. -/
namespace Go.Tw
open Go

variable {P : Program} {K K' : KW} {h : Heap} {w w' : World} {sp : Specs Prop} {cl : Bool} {again : Again Prop}
variable {fn : FuncId} {tmps : List AV} {defers : List ADef} {round : Option Nat} {Kc : AV → Heap → Prop} {b : Frame} {a : Act} {cs : List Frame} {k : List Item}

theorem rangeFunc_sound (hG : Good P) (hsp : SpOk P sp) (hr : RunOk P again) {f : Operand} {params : Array Tmp} {assign body : Code}
    (hk : rangeFuncK Alg.prop P cl sp again fn tmps (evalO tmps f) params.toList assign body k defers round h Kc) (hR : R K h w) (hf : b.fn = fn) (hro : roundRel K round b) (ht : rels K tmps a.tmps.toList) (hd : defsRel K defers a.defers) :
    Goes P K h w b cs (lone (b.atR a (.code (.rangeFunc f params assign body) :: k)) cs w) Kc := by
  unfold rangeFuncK at hk
  split at hk
  · rename_i l
    split at hk
    rotate_left
    · exact hk.elim
    rename_i state pending fn' tmps' params' assign' body' mine hg
    obtain ⟨L, hL, hb0, hkind⟩ := hro
    obtain ⟨L', hL', hv, r, hb, hl⟩ := hR.live _ _ hg
    cases hL.symm.trans hL'
    obtain ⟨M, hM, hMb⟩ := hl.defers
    refine loop_sound hG hsp hr (mark := []) hM hk hR hf ⟨L, hL, hb0, hkind⟩ ht hd ?_ (.refl _ _ _)
    simp [Instr.enterLoop, hb0, run_getLoop hb, hMb]
  · rw [Heap.newK_eq] at hk
    have hro' : b.roundOf = none := hro
    obtain ⟨q1, q2⟩ := hR.push (o := .deferred (some [])) (L := cellLoc w 0) (blk := .defd (some [])) rfl rfl ⟨rfl, some [], by simp [cellLoc], rfl⟩ (by simp)
    refine loop_sound hG hsp hr (mark := [{ target := .collected w.heap.size, args := #[] }]) (M := cellLoc w 0) KW.new_self hk q1 hf hro' (rels_mono q2.le _ _ ht) ?_ ?_ q2
    · exact ⟨_, _, rfl, ⟨_, KW.new_self, rfl⟩, defsRel_mono q2.le hd⟩
    · simp [Instr.enterLoop, hro', cellLoc]
      rfl

theorem code_sound (hG : Good P) (hsp : SpOk P sp) (hop : OpenOk P cl sp) (hr : RunOk P again) {c : Code} (hk : stepCode Alg.prop P cl sp again fn tmps c k defers round h Kc) (hR : R K h w) (hf : b.fn = fn) (hro : roundRel K round b) (ht : rels K tmps a.tmps.toList) (hd : defsRel K defers a.defers) :
    Goes P K h w b cs (lone (b.atR a (.code c :: k)) cs w) Kc := by
  have on : ∀ {k' : List Item}, step P (lone (b.atR a (.code c :: k)) cs w) = .next (lone (b.atR a k') cs w) → again false fn tmps k' defers round h Kc → Goes P K h w b cs (lone (b.atR a (.code c :: k)) cs w) Kc :=
    fun hs hk => Goes.of_steps (.one hs) (.refl _ _ _) (goes_on hr hk hR hf hro ht hd)
  cases c with
  | skip => exact on stepR_skip hk
  | label l => exact on stepR_label hk
  | ret =>
    refine leave_sound hr hk hR hf hro ht hd (fun hb _ => ⟨_, stepR_ret hb⟩) ?_
    intro l v w' c rest hb hkind e h1
    subst e
    exact stepR_round_ret hb hkind h1
  | seq x y => exact on stepR_seq hk
  | cond c x y =>
    have he := eval_rel ht c
    unfold stepCode at hk
    simp only at hk
    split at hk
    rotate_left
    · exact hk.elim
    rename_i t heq
    rw [heq] at he
    have hev : a.eval c = .bool t := he
    cases t
    · exact on (stepR_cond hev) hk
    · exact on (stepR_cond hev) hk
  | block id body => exact on stepR_block hk
  | loop body => exact on stepR_loop hk
  | scope body => exact on (step_lone_go (by simp [stepG, stepG.exec, Frame.atR])) hk
  | exit id =>
    unfold stepCode at hk
    simp only at hk
    split at hk
    · rename_i k' hx; exact on (stepR_exit hx) hk
    · rename_i hx
      refine leave_sound hr hk hR hf hro ht hd (fun _ hj => by rcases hj with hj | hj <;> cases hj) ?_
      intro l v w' c rest hb hkind e h1
      subst e
      exact stepR_round_exit hb hkind hx h1
  | goto l =>
    unfold stepCode at hk
    simp only at hk
    split at hk
    · rename_i k' hx; exact on (stepR_goto hx) hk
    · rename_i hx
      refine leave_sound hr hk hR hf hro ht hd (fun _ hj => by rcases hj with hj | hj <;> cases hj) ?_
      intro l v w' c rest hb hkind e h1
      subst e
      exact stepR_round_goto hb hkind hx h1
  | refuse why => exact hk.elim
  | region id ops draw =>
    unfold stepCode at hk
    simp only at hk
    split at hk
    · obtain ⟨ts, ds, a', K1, h1, w1, s, r1, r2, r3, r4, r5⟩ := seq_go (b := b) (k := k) (cs := cs) hG hsp hr.call ops.toList [] tmps defers a K h w rfl hR hro ht hd hk
      have hs : step P (lone (b.atR a (.code (.region id ops false) :: k)) cs w) = .next (lone (b.atR a (.inRegion ops (List.range' 0 ops.toList.length) :: k)) cs w) := by
        rw [stepR_region, List.range_eq_range', Array.length_toList]
      exact Goes.of_steps (.head hs s) r2 (goes_on hr r5 r1 hf (roundRel_mono r2.le hro) r3 r4)
    · unfold openRegionK at hk
      split at hk
      · exact hk.elim
      · rename_i plan hp
        obtain ⟨d1, d2⟩ := Ext.drew hR (w.drawn + 1)
        obtain ⟨ts, a', K1, h1, w1, s, r1, r2, r3, r4, r5⟩ := hop _ hr.call ops plan tmps h _ hp hk K _ b a cs k (w.tape w.drawn (.order b.fn id)) d1 ht
        exact Goes.of_steps (.head stepR_region_draw s) (d2.trans r2) (goes_on hr r5 r1 hf (roundRel_mono r2.le hro) r3 (by rw [r4]; exact defsRel_mono r2.le hd))
  | rangeFunc f params assign body => exact rangeFunc_sound hG hsp hr hk hR hf hro ht hd

theorem todo_sound (hG : Good P) (hsp : SpOk P sp) (hop : OpenOk P cl sp) (hr : RunOk P again) {todo : List Item} (hk : stepTodo Alg.prop P cl sp again fn tmps todo defers round h Kc) (hR : R K h w) (hf : b.fn = fn) (hro : roundRel K round b) (ht : rels K tmps a.tmps.toList) (hd : defsRel K defers a.defers) :
    Goes P K h w b cs (lone (b.atR a todo) cs w) Kc := by
  cases todo with
  | nil =>
    refine leave_sound hr hk hR hf hro ht hd (fun hb _ => ⟨_, stepR_end hb⟩) ?_
    intro l v w' c rest hb hkind e h1
    subst e
    exact stepR_round_end hb hkind h1
  | cons it k =>
    have on : ∀ {k' : List Item}, step P (lone (b.atR a (it :: k)) cs w) = .next (lone (b.atR a k') cs w) → again false fn tmps k' defers round h Kc → Goes P K h w b cs (lone (b.atR a (it :: k)) cs w) Kc :=
      fun hs hk => Goes.of_steps (.one hs) (.refl _ _ _) (goes_on hr hk hR hf hro ht hd)
    cases it with
    | code c => exact code_sound hG hsp hop hr hk hR hf hro ht hd
    | inBlock id => exact on stepR_inBlock hk
    | inScope body => exact on (step_lone_go (by simp [stepG, stepG.exec, Frame.atR])) hk
    | inLoop body => exact on stepR_inLoop hk
    | beginRound => exact beginRound_sound hr hk hR hf hro ht hd
    | inRegion _ _ => exact hk.elim
    | inRangeFunc _ => exact hk.elim
    | endRangeFunc _ => exact hk.elim
    | call _ _ _ _ => exact hk.elim
    | extern _ _ => exact hk.elim

/-- Runs are sound. -/
theorem run_ok (hG : Good P) (hsp : SpOk P sp) (hop : OpenOk P cl sp) : ∀ n, RunOk P (run Alg.prop P cl sp n)
  | 0 => by
    intro leaving fn tmps todo defers round h Kc hk
    exact hk.elim
  | n + 1 => by
    intro leaving fn tmps todo defers round h Kc hk K w b a cs td hR hf hro hl htd ht hd
    have ih := run_ok hG hsp hop n
    cases leaving with
    | true =>
      have hr0 : round = none := hl rfl
      subst hr0
      exact unwind_sound hG hsp ih hk hR hf hro ht hd
    | false =>
      have : td = todo := htd rfl
      subst this
      exact todo_sound hG hsp hop ih hk hR hf hro ht hd

/-- A call that the plain machine reckons is one that the machine makes. -/
theorem call_ok (hG : Good P) (hsp : SpOk P sp) (hop : OpenOk P cl sp) {n : Nat} {f : FuncId} {args : List AV} {vs : Array Value} {Kc : AV → Heap → Prop} (hk : call Alg.prop P cl sp n f args h Kc) (hR : R K h w) (ha : rels K args vs.toList) : CallsTo P K h w f vs Kc :=
  (enter_sound hsp (run_ok hG hsp hop n).call hR ha hk).2

end Go.Tw
