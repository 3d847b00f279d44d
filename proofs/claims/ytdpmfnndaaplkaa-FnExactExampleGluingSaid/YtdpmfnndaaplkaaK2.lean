/- A library of the author's own and walks of the program's functions, laid together by program. -/
import Derived.Test.YtdpmfnndaaplkaaK1
import Derived.Deep.AppendSrc
import Derived.Laws.IdiomStrings
import Derived.Laws.BytesString
import Derived.Laws.Tables
set_option linter.unusedVariables false
set_option linter.unusedSimpArgs false
/- Append, copy. -/
namespace Go.Dm
open Go

theorem nextcap_le {n c : Nat} (h : c < n) : Builtin.nextslicecap n c ≤ 2 * n := by
  have key : ∀ r x, 256 ≤ x → x < 2 * n → Builtin.growBy n r x ≤ 2 * n := by
    intro r
    induction r with
    | zero => intro x _ hx; simp only [Builtin.growBy]; omega
    | succ r ih =>
      intro x h1 h2
      simp only [Builtin.growBy]
      split
      · omega
      · exact ih _ (by omega) (by omega)
  unfold Builtin.nextslicecap
  split
  · omega
  · split
    · omega
    · exact key 4 c (by omega) (by omega)

section
variable {P : Program} {ti : TypeId → TI} {own : Bool} (hti : ∀ t, (ti t).ok = true → TIok P ti t)
variable {w0 : World} {O0 : List Nat} {Z0 : Nat → Prop} {m0 : List OR} {os0 : List Ob} {m : List OR} {fpl : List (List Nat)} {Γ Γ' : St} {a : Act} {w : World} {K : St → Prop} {d : Option Nat}

theorem Keep.drew (O : List Nat) (w : World) : Keep O w { w with drawn := w.drawn + 1 } :=
  ⟨fun _ arr _ _ hb => ⟨arr, hb, rfl⟩, rfl, rfl, rfl, Nat.le_refl _, fun _ _ _ => rfl⟩

theorem SR.drew (h : SR w0 O0 Z0 m0 os0 m fpl Γ a w) : SR w0 O0 Z0 m0 os0 m fpl Γ a { w with drawn := w.drawn + 1 } := by
  have S : Stp (fun _ => False) w { w with drawn := w.drawn + 1 } (Zn w0 O0 Z0 w fpl) (Zn w0 O0 Z0 { w with drawn := w.drawn + 1 } fpl) m m Γ.objs Γ.objs :=
    ⟨fun _ hb => hb, fun _ _ => rfl, fun _ arr _ _ hb => ⟨arr, hb, rfl⟩, fun _ _ => rfl, Nat.le_refl _, fun _ _ => ObLe.refl _, fun _ _ _ _ => rfl⟩
  exact ⟨⟨h.ob.ml, h.ob.fl, fun i hi => obR.step S hi rfl (fun _ cs _ => nrs_false cs) (fun _ _ => rfl) (h.ob.ob i hi), h.ob.nodup, h.ob.own, h.ob.keep.trans ((Keep.drew _ _))⟩,
    h.m0, h.o0, h.fx, h.le, h.tm, h.df, fun s sv hs => (h.env s sv hs).step S (nr_false sv)⟩

/-- The cells of what is appended. -/
structure Src (P : Program) (w0 : World) (O0 : List Nat) (Z0 : Nat → Prop) (fpl : List (List Nat)) (t : Ty) (dd : Nat) (Γ Γ' : St) (w : World) (vx : Value) (ys : List t.T) (cells : List Value) (mvs : List (List Nat)) : Prop where
  less : Less Γ Γ'
  len : (Builtin.lenOf vx).run P w = .ok ys.length w
  run : ∀ n, n ≤ ys.length → (Builtin.firstCells t.size n vx).run P w = .ok (cells.take (n * t.size)).toArray w
  run' : ∀ n, n ≤ ys.length → (Builtin.firstCells t.size n vx).run P { w with drawn := w.drawn + 1 } = .ok (cells.take (n * t.size)).toArray { w with drawn := w.drawn + 1 }
  cl : cells.length = ys.length * t.size
  one : ∀ v ∈ cells, v.oneCell' = true
  ml : mvs.length = ys.length
  mv : Mv fpl Γ Γ' mvs.flatten
  ro : rowsOwn t dd = false → mvs.flatten = []
  rep : ∀ i (h : i < ys.length), Rep w (ZE w0 O0 Z0 w fpl t dd Γ Γ') t dd ys[i] ((cells.drop (i * t.size)).take t.size) (mvs.getD i [])

/-- Cells of values that lie one behind the other. -/
theorem row_cells {t : Ty} {b o : Nat} : ∀ {n : Nat} (ces : Nat → List Value), (∀ i, i < n → (ces i).length = t.size ∧ CellsAt w b (o + i * t.size) (ces i)) →
    ∃ cells : List Value, cells.length = n * t.size ∧ CellsAt w b o cells ∧ (∀ i, i < n → (cells.drop (i * t.size)).take t.size = ces i) ∧ ∀ v ∈ cells, ∃ i, i < n ∧ v ∈ ces i
  | 0, ces, _ => ⟨[], by simp, fun j v hj => by simp at hj, fun i hi => by omega, by simp⟩
  | n + 1, ces, h => by
    obtain ⟨cells, h1, h2, h3, h4⟩ := row_cells (n := n) ces (fun i hi => h i (by omega))
    obtain ⟨h5, h6⟩ := h n (by omega)
    refine ⟨cells ++ ces n, by rw [List.length_append, h1, h5, Nat.add_mul, Nat.one_mul], CellsAt.append.2 ⟨h2, by rw [h1]; exact h6⟩, fun i hi => ?_, fun v hv => ?_⟩
    · by_cases hin : i = n
      · subst hin
        rw [List.drop_append_of_le_length (by omega), ← h1, List.drop_length, List.nil_append, ← h5, List.take_length]
      · have hle : i * t.size + t.size ≤ n * t.size := by
          have : (i + 1) * t.size ≤ n * t.size := Nat.mul_le_mul_right _ (by omega)
          rwa [Nat.add_mul, Nat.one_mul] at this
        rw [List.drop_append_of_le_length (by omega), List.take_append_of_le_length (by simp; omega)]
        exact h3 i (by omega)
    · rcases List.mem_append.1 hv with hv | hv
      · obtain ⟨i, hi, hm⟩ := h4 v hv; exact ⟨i, by omega, hm⟩
      · exact ⟨n, by omega, hv⟩

theorem run_first {w : World} {b o n s c L : Nat} {cells : List Value} (hc : CellsAt w b o cells) (hn : n * s ≤ cells.length) :
    (Builtin.firstCells s n (.slice (some ⟨b, o, none⟩) L c)).run P w = .ok (cells.take (n * s)).toArray w := by
  have hadd : ∀ j, (⟨b, o, none⟩ : Addr).add j = ⟨b, o + j, none⟩ := by intro j; unfold Addr.add; split <;> simp_all
  have h1 := run_loadCells_list (P := P) w ⟨b, o, none⟩ (cells.take (n * s)) (fun j v hj => by
    rw [hadd]
    refine hc j v ?_
    rw [List.getElem?_take] at hj
    split at hj
    · exact hj
    · cases hj)
  rw [List.length_take, Nat.min_eq_left hn] at h1
  exact h1

/-- A value's cells are one cell each. -/
theorem Rep.one : ∀ {Z : Nat → Prop} {t : Ty} {d : Nat} {x : t.T} {cs : List Value} {fp : List Nat}, Rep w Z t d x cs fp → ∀ v ∈ cs, v.oneCell' = true
  | _, .int _, _, _, _, _, h => by obtain ⟨rfl, _⟩ := h; simp [Value.oneCell']
  | _, .bool, _, _, _, _, h => by obtain ⟨rfl, _⟩ := h; simp [Value.oneCell']
  | _, .str, _, _, _, _, h => by obtain ⟨rfl, _⟩ := h; simp [Value.oneCell']
  | _, .unit, _, _, _, _, h => by obtain ⟨rfl, _⟩ := h; simp
  | _, .pair a b, _, _, _, _, h => by
    obtain ⟨c1, c2, f1, f2, rfl, _, h1, h2⟩ := h
    intro v hv
    rcases List.mem_append.1 hv with hv | hv
    · exact h1.one v hv
    · exact h2.one v hv
  | _, .sl _ _, 0, _, _, _, h => by obtain ⟨_, _, _, rfl, _⟩ := h; simp [Value.oneCell']
  | _, .sl _ _, _ + 1, _, _, _, h => by rcases h with ⟨_, _, _, rfl⟩ | ⟨_, _, _, _, rfl, _⟩ <;> simp [Value.oneCell']


theorem pick_cells {n : Nat} {p : Nat → List Value → Prop} (h : ∀ i, i < n → ∃ c, p i c) : ∃ f : Nat → List Value, ∀ i, i < n → p i (f i) := by
  classical
  refine ⟨fun i => if hi : i < n then Classical.choose (h i hi) else [], fun i hi => ?_⟩
  simp only [dif_pos hi]
  exact Classical.choose_spec (h i hi)

theorem src_empty (h : SR w0 O0 Z0 m0 os0 m fpl Γ a w) {t : Ty} {dd : Nat} {vx : Value} (hl : Less Γ Γ') (h1 : ∃ A c, vx = .slice A 0 c) : Src P w0 O0 Z0 fpl t dd Γ Γ' w vx [] [] [] := by
  obtain ⟨A, c, rfl⟩ := h1
  refine ⟨hl, rfl, fun n hn => ?_, fun n hn => ?_, by simp, by simp, rfl, Mv.nil _ _ _, fun _ => rfl, fun i hi => by simp at hi⟩
  · have : n = 0 := by simpa using hn
    subst this
    cases A with
    | none => simp [Builtin.firstCells]
    | some ad => simp [Builtin.firstCells, loadCells, loadCellsFrom]
  · have : n = 0 := by simpa using hn
    subst this
    cases A with
    | none => simp [Builtin.firstCells]
    | some ad => simp [Builtin.firstCells, loadCells, loadCellsFrom]

/-- Elements that lie in a row of memory. -/
theorem src_row {t : Ty} {dd : Nat} {b o n' c : Nat} {ys : List t.T} {mvs : List (List Nat)} (hl : Less Γ Γ') (hn : n' = ys.length)
    (hml : mvs.length = ys.length) (hmv : Mv fpl Γ Γ' mvs.flatten) (hro : rowsOwn t dd = false → mvs.flatten = [])
    (hr : ∀ i, (hi : i < ys.length) → ∃ ces, CellsAt w b (o + i * t.size) ces ∧ Rep w (ZE w0 O0 Z0 w fpl t dd Γ Γ') t dd ys[i] ces (mvs.getD i [])) :
    ∃ cells, Src P w0 O0 Z0 fpl t dd Γ Γ' w (.slice (some ⟨b, o, none⟩) n' c) ys cells mvs := by
  subst hn
  obtain ⟨f, hf⟩ := pick_cells (n := ys.length) (p := fun i ces => CellsAt w b (o + i * t.size) ces ∧ ∃ hi : i < ys.length, Rep w (ZE w0 O0 Z0 w fpl t dd Γ Γ') t dd ys[i] ces (mvs.getD i []))
    (fun i hi => by obtain ⟨ces, h1, h2⟩ := hr i hi; exact ⟨ces, h1, hi, h2⟩)
  obtain ⟨cells, h1, h2, h3, h4⟩ := row_cells (w := w) (t := t) (b := b) (o := o) (n := ys.length) f (fun i hi => by obtain ⟨h5, _, h6⟩ := hf i hi; exact ⟨h6.len, h5⟩)
  refine ⟨cells, hl, rfl, fun n hn => run_first h2 (by rw [h1]; exact Nat.mul_le_mul_right _ hn), fun n hn => run_first (w := { w with drawn := w.drawn + 1 }) h2 (by rw [h1]; exact Nat.mul_le_mul_right _ hn), h1, fun v hv => ?_, hml, hmv, hro, fun i hi => ?_⟩
  · obtain ⟨i, hi, hm⟩ := h4 v hv
    obtain ⟨_, _, h6⟩ := hf i hi
    exact h6.one v hm
  · rw [h3 i hi]
    exact (hf i hi).2.2

theorem getD_rep (n i : Nat) : (List.replicate n ([] : List Nat)).getD i [] = [] := by
  rw [List.getD_eq_getElem?_getD]
  by_cases h : i < n
  · simp [h]
  · rw [List.getElem?_eq_none (by simpa using h)]; rfl

theorem flat_ro {t : Ty} {dd : Nat} (h : t.flat = true ∨ dd = 0) : rowsOwn t dd = false := by
  rcases h with h | h
  · cases t <;> simp_all [rowsOwn, Ty.flat]
  · subst h; cases t <;> rfl

theorem src_good (h : SR w0 O0 Z0 m0 os0 m fpl Γ a w) {e : TypeId} {t : Ty} {dd : Nat} {x : SV} {vx : Value} {ys : List t.T} (hs : src (sC P ti own) Γ e t dd x = some (ys, Γ'))
    (hx : SVr w (Zn w0 O0 Z0 w fpl) m Γ.objs x vx) : ∃ cells mvs, Src P w0 O0 Z0 fpl t dd Γ Γ' w vx ys cells mvs := by
  have hrepl : ∀ n : Nat, (List.replicate n ([] : List Nat)).flatten = [] := fun n => by simp
  unfold src at hs
  split at hs
  · -- nil
    cases hs
    simp only [SVr] at hx
    subst hx
    exact ⟨[], [], src_empty h (Less.refl _) ⟨_, _, rfl⟩⟩
  · -- a string
    rename_i s
    simp only [SVr] at hx
    subst hx
    split at hs
    · rename_i zs hz
      obtain ⟨rfl, hh⟩ := cast_eq hz
      cases hh
      cases hs
      have hints : (sC P ti own).w.ints s = s.map fun b => (b.toNat : Int) := rfl
      refine ⟨s.map fun b => Value.int .u8 b.toNat, List.replicate s.length [], ⟨Less.refl _, by rw [hints]; simp [Builtin.lenOf, ba_size], fun n hn => ?_, fun n hn => ?_, by rw [hints]; simp [Ty.size], by simp [Value.oneCell'], by rw [hints]; simp, by rw [hrepl]; exact Mv.nil _ _ _, fun _ => hrepl _, fun i hi => ?_⟩⟩
      · rw [hints] at hn
        simp only [Builtin.firstCells, Sem.run_pure, ba_extract]
        congr 1
        apply Array.ext'
        simp [Ty.size, List.map_take]
      · rw [hints] at hn
        simp only [Builtin.firstCells, Sem.run_pure, ba_extract]
        congr 1
        apply Array.ext'
        simp [Ty.size, List.map_take]
      · have hi' : i < s.length := by rw [hints] at hi; simpa using hi
        rw [getD_rep]
        refine ⟨?_, rfl⟩
        have h2 : ((sC P ti own).w.ints s)[i] = ((s[i]).toNat : Int) := List.getElem_map (fun b : UInt8 => (b.toNat : Int))
        rw [h2]
        simp only [Ty.size, Nat.mul_one]
        rw [List.drop_eq_getElem_cons (by simpa using hi')]
        simp
    · cases hs
  · -- a frozen slice
    rename_i t' e' xs
    simp only [SVr] at hx
    split at hs
    · rename_i hcond
      split at hs
      · rename_i zs hz
        obtain ⟨rfl, hh⟩ := cast_eq hz
        cases hh
        cases hs
        obtain ⟨_, A, c, hv, hc, h1⟩ := hx
        cases hv
        rcases h1 with h1 | ⟨b, o, rfl, hzn, h2⟩
        · subst h1
          exact ⟨[], [], src_empty h (Less.refl _) ⟨_, _, rfl⟩⟩
        · obtain ⟨cells, hsrc⟩ := src_row (P := P) (fpl := fpl) (dd := dd) (ys := xs) (mvs := List.replicate xs.length []) (Less.refl Γ) (c := c) rfl (by simp) (by rw [hrepl]; exact Mv.nil _ _ _) (fun _ => hrepl _) (fun i hi => by
            obtain ⟨ces, h3, h4⟩ := h2 i hi
            refine ⟨ces, h3, ?_⟩
            rw [getD_rep]
            rcases hcond.2 with hf | hd0
            · exact h4.flat_any hf
            · subst hd0
              exact h4.freeze (fun b hb => .inl hb) (by simp))
          exact ⟨cells, _, hsrc⟩
      · cases hs
    · cases hs
  · -- a slice of its own
    rename_i id off len
    simp only [SVr] at hx
    obtain ⟨hid, h1c, hx⟩ := hx
    split at hs
    · rename_i t' e' d' xs ho
      rw [ho] at hx
      split at hs
      · split at hs
        · rename_i zs hz
          obtain ⟨rfl, hh⟩ := cast_eq hz
          cases hh
          obtain ⟨cap, b', o', rfl, h0, h1, h2, arr, e1, h3, h4⟩ := hx
          have hb := h.ob.ob id hid
          unfold obR at hb
          rw [ho] at hb
          obtain ⟨arr', e2, fps, h5, h6, h7, h8, h9⟩ := hb
          have hlen : ((sC P ti own).w.ext xs off len).length = len := by
            show ((xs.drop off).take len).length = len
            simp; omega
          have hgone : Less Γ (Γ.setO (ost Γ.objs id .gone)) := Less.drop Γ id
          have hisg : isGone (ogt (Γ.setO (ost Γ.objs id .gone)).objs id) = true := by
            show isGone (ogt (ost Γ.objs id .gone) id) = true
            rw [ogt_ost, if_pos ⟨rfl, hid⟩]; rfl
          have hrep : ∀ i, (hi : i < ((sC P ti own).w.ext xs off len).length) → len ≠ 0 → ∃ ces, CellsAt w b' (o' + i * t'.size) ces ∧ Rep w (Zn w0 O0 Z0 w fpl) t' d' ((sC P ti own).w.ext xs off len)[i] ces (fps.getD (off + i) []) := by
            intro i hi hl0
            obtain ⟨rfl, rfl⟩ := h0 (by omega)
            rw [hlen] at hi
            rcases h9 (off + i) (by omega) with ⟨h10, _⟩ | ⟨_, ces, h11, h12⟩
            · cases h10
            · refine ⟨ces, by rw [Nat.add_mul, ← Nat.add_assoc] at h11; exact h11, ?_⟩
              have hx : ((sC P ti own).w.ext xs off len)[i]'(by rw [hlen]; exact hi) = xs[off + i]'(by omega) := ext_getElem _ _
              rw [hx]; exact h12
          by_cases hl0 : len = 0
          · have hemp : (sC P ti own).w.ext xs off len = [] := List.length_eq_zero_iff.1 (hlen.trans hl0)
            subst hl0
            split at hs
            · cases hs
              exact ⟨[], [], by rw [hemp]; exact src_empty h (Less.refl _) ⟨_, _, rfl⟩⟩
            · split at hs
              · cases hs
                exact ⟨[], [], by rw [hemp]; exact src_empty h hgone ⟨_, _, rfl⟩⟩
              · cases hs
          · split at hs
            · rename_i hf
              cases hs
              obtain ⟨cells, hsrc⟩ := src_row (P := P) (fpl := fpl) (dd := dd) (mvs := List.replicate len []) (Less.refl Γ) (c := cap) hlen.symm (by rw [hlen]; simp) (by rw [hrepl]; exact Mv.nil _ _ _) (fun _ => hrepl _) (fun i hi => by
                obtain ⟨ces, h10, h11⟩ := hrep i hi hl0
                refine ⟨ces, h10, ?_⟩
                rw [getD_rep]
                rcases hf with hf | ⟨rfl, rfl⟩
                · have := h11.flat_fp hf
                  rw [this] at h11
                  exact h11.flat_any hf
                · have := h11.zero_fp
                  rw [this] at h11
                  exact h11.mono (fun b hb => .inl hb) (fun _ _ => rfl) (fun _ _ => rfl))
              exact ⟨cells, _, hsrc⟩
            · split at hs
              · rename_i hnf hdd
                cases hs
                by_cases hd0 : dd = 0
                · subst hd0
                  obtain ⟨cells, hsrc⟩ := src_row (P := P) (fpl := fpl) (dd := 0) (mvs := List.replicate len []) hgone (c := cap) hlen.symm (by rw [hlen]; simp) (by rw [hrepl]; exact Mv.nil _ _ _) (fun _ => hrepl _) (fun i hi => by
                    obtain ⟨ces, h10, h11⟩ := hrep i hi hl0
                    refine ⟨ces, h10, ?_⟩
                    rw [getD_rep]
                    refine h11.freeze (fun b hb => .inl hb) (fun b hb => .inr ⟨by cases t' <;> rfl, .inr ⟨id, hid, by rw [ho]; rfl, hisg, ?_⟩⟩)
                    rw [h8]
                    exact List.mem_cons_of_mem _ (flat_mem hb))
                  exact ⟨cells, _, hsrc⟩
                · obtain ⟨hdd', hisl⟩ := hdd.resolve_left hd0
                  subst hdd'
                  have hsub := dt_sub fps off len
                  obtain ⟨cells, hsrc⟩ := src_row (P := P) (fpl := fpl) (dd := dd) (mvs := (fps.drop off).take len) hgone (c := cap) hlen.symm (by rw [hlen]; simp; omega) ⟨by
                      have hnd := getD_nodup h.ob.nodup id
                      rw [h8] at hnd
                      exact (List.nodup_cons.1 hnd).2.sublist hsub, fun b hb => ⟨id, hid, by rw [ho]; rfl, hisg, by rw [h8]; exact List.mem_cons_of_mem _ (hsub.subset hb)⟩⟩
                    (fun hro => by
                      cases t' with
                      | sl e3 t3 => cases dd with
                        | zero => exact absurd rfl hd0
                        | succ k => simp [rowsOwn] at hro
                      | int => simp [Ty.isSl] at hisl
                      | bool => simp [Ty.isSl] at hisl
                      | str => simp [Ty.isSl] at hisl
                      | unit => simp [Ty.isSl] at hisl
                      | pair p q => simp [Ty.isSl] at hisl)
                    (fun i hi => by
                      obtain ⟨ces, h10, h11⟩ := hrep i hi hl0
                      refine ⟨ces, h10, ?_⟩
                      have hf : ((fps.drop off).take len).getD i [] = fps.getD (off + i) [] := by
                        rw [hlen] at hi
                        simp only [List.getD_eq_getElem?_getD, List.getElem?_take, if_pos hi, List.getElem?_drop]
                      rw [hf]
                      exact h11.mono (fun b hb => .inl hb) (fun _ _ => rfl) (fun _ _ => rfl))
                  exact ⟨cells, _, hsrc⟩
              · cases hs
        · cases hs
      · cases hs
    · cases hs
  · -- a row
    rename_i id j off len
    simp only [SVr] at hx
    obtain ⟨hid, h1c, hx⟩ := hx
    split at hs
    · rename_i e5 t5 e'' d5 xs ho
      rw [ho] at hx
      split at hs
      · rename_i hcond
        split at hs
        · rename_i zs hz
          obtain ⟨rfl, hh⟩ := cast_eq hz
          cases hh
          cases hs
          have hq : seq (sC P ti own) Γ (.row id j off len) = some ⟨t5, e5, (sC P ti own).w.ext ((sC P ti own).w.get (.sl e5 t5) xs j) off len⟩ := by
            unfold seq; simp only [ho]
          obtain ⟨A, c, rfl, hc, h1⟩ := seq_rep h hq (by simp only [SVr]; rw [ho]; exact ⟨hid, h1c, hx⟩)
          rcases h1 with h1 | ⟨b, o, rfl, _, h2⟩
          · exact ⟨[], [], by rw [h1]; exact src_empty h (Less.refl _) ⟨_, _, rfl⟩⟩
          · obtain ⟨cells, hsrc⟩ := src_row (P := P) (fpl := fpl) (dd := dd) (ys := (sC P ti own).w.ext ((sC P ti own).w.get (.sl e5 t5) xs j) off len) (mvs := List.replicate ((sC P ti own).w.ext ((sC P ti own).w.get (.sl e5 t5) xs j) off len).length []) (Less.refl Γ) (c := c) rfl (by simp) (by rw [hrepl]; exact Mv.nil _ _ _) (fun _ => hrepl _) (fun i hi => by
              obtain ⟨ces, h3, h4⟩ := h2 i hi
              refine ⟨ces, h3, ?_⟩
              rw [getD_rep]
              exact h4.flat_any hcond.2)
            exact ⟨cells, _, hsrc⟩
        · cases hs
      · cases hs
    · cases hs
  · cases hs

end
end Go.Dm

/- Append. -/
namespace Go.Dm
open Go

section
variable {P : Program} {ti : TypeId → TI} {own : Bool} (hti : ∀ t, (ti t).ok = true → TIok P ti t)
variable {w0 : World} {O0 : List Nat} {Z0 : Nat → Prop} {m0 : List OR} {os0 : List Ob} {m : List OR} {fpl : List (List Nat)} {Γ Γ' : St} {a : Act} {w : World} {K : St → Prop} {d : Option Nat}

/-- A list that takes a gone one's block over. -/
theorem reuse_lst (h : SR w0 O0 Z0 m0 os0 m fpl Γ a w) (hd : ∀ k, d = some k → k < Γ.n) {id : Nat} (hid : id < Γ.objs.length) (hlive : isGone (ogt Γ.objs id) = false)
    (hl : Less (Γ.setO (ost Γ.objs id .gone)) Γ') {B o : Nat} {arr arr' : Array Value} {e' e : TypeId} (hB : w.heap[B]? = some (.cells arr e' (0, 0))) (hsz : arr'.size = arr.size)
    (hmem : B ∈ fpl.getD id []) {mvs : List (List Nat)} {t : Ty} {dd : Nat} {ys : List t.T} {cap : Nat} (hmv : Mv fpl Γ Γ' mvs.flatten) (hnB : B ∉ mvs.flatten) (hro : rowsOwn t dd = false → mvs.flatten = [])
    (hml : mvs.length = ys.length) (hfit : o + ys.length * t.size ≤ arr.size)
    (hels : ∀ i (h1 : i < ys.length), ∃ ces : List Value, (∀ j v, ces[j]? = some v → arr'[o + i * t.size + j]? = some v) ∧ Rep w (ZE w0 O0 Z0 w fpl t dd (Γ.setO (ost Γ.objs id .gone)) Γ') t dd ys[i] ces (mvs.getD i []))
    (hcap : o + cap * t.size ≤ arr.size) (hcl : ys.length ≤ cap) {len b1 o1 : Nat} (hlen : len = ys.length) (hb1 : cap ≠ 0 → b1 = B ∧ o1 = o) :
    StR w0 O0 Z0 m0 os0 ((Γ'.setO (Γ'.objs ++ [.lst t e dd ys none])).put d (.view Γ'.objs.length 0 len)) (a.put d (.slice (some ⟨b1, o1, none⟩) len cap)) (w.setRow B arr') := by
  subst hlen
  have hgid : isGone (ogt Γ'.objs id) = true := by
    rcases hl.ob id with h1 | h1
    · rw [h1]; show isGone (ogt (ost Γ.objs id .gone) id) = true; rw [ogt_ost, if_pos ⟨rfl, hid⟩]; rfl
    · rw [h1]; rfl
  have hl' : Less Γ Γ' := (Less.drop Γ id).trans hl
  have h' := h.less hl'
  have hmo := h'.ob.ml
  have hlen' : Γ'.objs.length = Γ.objs.length := hl'.len
  obtain ⟨hnd, hsub⟩ := Mv.alloc h hl' hmv
  have hBm : B ∈ fpl.flatten := flat_mem hmem
  have hBlive : B ∉ (live fpl Γ'.objs).flatten := by
    intro hm
    obtain ⟨i, hi, hg, hb⟩ := mem_live.1 hm
    have := flatten_pair h.ob.nodup hb hmem
    subst this
    rw [hgid] at hg; cases hg
  have hsize : (w.setRow B arr').heap.size = w.heap.size := by simp
  have hflat : (live fpl Γ'.objs ++ [B :: mvs.flatten]).flatten = (live fpl Γ'.objs).flatten ++ B :: mvs.flatten := by simp
  have hin : ∀ b, b ∈ (live fpl Γ'.objs ++ [B :: mvs.flatten]).flatten → b ∈ fpl.flatten := by
    intro b hb
    rw [hflat] at hb
    rcases List.mem_append.1 hb with hb | hb
    · exact hsub b (by simp [hb])
    · rcases List.mem_cons.1 hb with hb | hb
      · subst hb; exact hBm
      · exact hsub b (by simp [hb])
  have hnd' : (live fpl Γ'.objs ++ [B :: mvs.flatten]).flatten.Nodup := by
    rw [hflat]
    have hn := List.nodup_append.1 hnd
    refine List.nodup_append.2 ⟨hn.1, List.nodup_cons.2 ⟨hnB, hn.2.1⟩, ?_⟩
    intro x hx y hy hxy
    subst hxy
    rcases List.mem_cons.1 hy with hy | hy
    · subst hy; exact hBlive hx
    · exact hn.2.2 x hx x hy rfl
  have hBne : ∀ i, i < Γ'.objs.length → isGone (ogt Γ'.objs i) = false → ∀ b ∈ fpl.getD i [], b ≠ B := by
    intro i hi hg b hb he
    subst he
    have := flatten_pair h.ob.nodup hb hmem
    subst this
    rw [hgid] at hg; cases hg
  have hgetlt : ∀ i, i < Γ'.objs.length → (live fpl Γ'.objs ++ [B :: mvs.flatten]).getD i [] = if isGone (ogt Γ'.objs i) then [] else fpl.getD i [] := by
    intro i hi
    rw [← live_get hi]
    simp only [List.getD_eq_getElem?_getD, List.getElem?_append_left (show i < (live fpl Γ'.objs).length by rw [live_len]; exact hi)]
  have hgetn : (live fpl Γ'.objs ++ [B :: mvs.flatten]).getD Γ'.objs.length [] = B :: mvs.flatten := by
    have := @live_len fpl Γ'.objs
    simp [List.getD_eq_getElem?_getD, ← this]
  obtain ⟨S, hnext⟩ := SR.next h' (w' := w.setRow B arr') (m2 := [⟨B, o⟩]) (fpl' := live fpl Γ'.objs ++ [B :: mvs.flatten]) (objs' := Γ'.objs ++ [.lst t e dd ys none]) (fun _ => False)
    (by simp [hmo]) (by simp [live_len]) (fun b hb => ⟨.inl (hin b hb), by rw [hsize]; exact (h.ob.own b (hin b hb)).1⟩) hnd' (Keep.setRow hB hsz hBm)
    (fun i hi => by rw [ogt_append, if_pos hi]; exact ObLe.refl _)
    (fun id' hid' _ hx => by
      obtain ⟨e1, t1, e2, d1, xs1, hole1, ho⟩ := hx
      rw [ogt_append, if_pos hid'] at ho
      have hb2 := h'.ob.ob id' hid'
      unfold obR at hb2
      rw [ho] at hb2
      obtain ⟨_, _, fps, _, _, _, h4, _⟩ := hb2
      exact setRow_same (hBne id' hid' (by rw [ho]; rfl) _ (by rw [h4]; simp)))
    (fun _ sv _ => nr_false sv) (fun _ _ cs _ => nrs_false cs)
    (fun S i hi => by
      by_cases hlt : i < Γ'.objs.length
      · cases hg : isGone (ogt Γ'.objs i) with
        | true =>
          right
          unfold obR
          rw [ogt_append, if_pos hlt, isGone_eq.1 hg]; trivial
        | false =>
          left
          refine ⟨hlt, by rw [ogt_append, if_pos hlt], by rw [hgetlt i hlt, hg]; rfl, fun b hb => setRow_same (hBne i hlt hg b hb)⟩
      · right
        have hi' : i = Γ'.objs.length := by simp at hi; omega
        subst hi'
        rw [hgetn]
        unfold obR
        rw [ogt_append, if_neg (by omega), if_pos rfl, ← hmo, mg_new]
        refine ⟨arr', e', mvs, by rw [setRow_heap', if_pos rfl, hB], by rw [hsz]; exact hfit, hml, rfl, fun j hj => .inr ⟨by simp, ?_⟩⟩
        obtain ⟨ces, h1, h2⟩ := hels j hj
        have hZne : ∀ b, ZE w0 O0 Z0 w fpl t dd (Γ.setO (ost Γ.objs id .gone)) Γ' b → b ≠ B ∧ Zn w0 O0 Z0 (w.setRow B arr') (live fpl Γ'.objs ++ [B :: mvs.flatten]) b := by
          have key : ∀ b, Zn w0 O0 Z0 w fpl b → b ≠ B ∧ Zn w0 O0 Z0 (w.setRow B arr') (live fpl Γ'.objs ++ [B :: mvs.flatten]) b :=
            fun b hb => ⟨fun he => hb.2.2 (by rw [he]; exact hBm), S.z b hb⟩
          intro b hb
          rcases hb with hb | ⟨hr, hb | ⟨i, h3, h4, h5, h6⟩⟩
          · exact key b hb
          · exact key b hb
          · have hne : i ≠ id := by
              intro he
              subst he
              have : isGone (ogt (ost Γ.objs i .gone) i) = false := h4
              rw [ogt_ost, if_pos ⟨rfl, hid⟩] at this; cases this
            have hbB : b ≠ B := by
              intro he
              subst he
              exact hne (flatten_pair h.ob.nodup h6 hmem)
            have hb' := h.ob.own b (flat_mem h6)
            refine ⟨hbB, by rcases hb'.2 with h7 | h7; exact .inr (.inl h7); exact .inr (.inr h7), by rw [hsize]; exact hb'.1, ?_⟩
            rw [hflat, hro hr]
            intro hm
            rcases List.mem_append.1 hm with hm | hm
            · obtain ⟨i', _, hg, h7⟩ := mem_live.1 hm
              have := flatten_pair h.ob.nodup h6 h7
              subst this
              rw [h5] at hg; cases hg
            · simp at hm; exact hbB hm
        refine ⟨ces, fun i v hi => ?_, ?_⟩
        · rw [cell_of (by rw [setRow_heap', if_pos rfl, hB] : (w.setRow B arr').heap[B]? = some (.cells arr' e' (0, 0)))]
          exact h1 i v hi
        · refine h2.mono (fun b hb => (hZne b hb).2) (fun b hb => setRow_same (hZne b hb).1) (fun b hb => setRow_same ?_)
          intro he
          subst he
          exact hnB (flat_mem hb))
  refine ⟨_, _, hnext.put (by rw [show (Γ'.setO (Γ'.objs ++ [Ob.lst t e dd ys none])).n = Γ'.n from rfl, hl'.n]; exact hd) ?_⟩
  simp only [SVr]
  have : ogt (Γ'.setO (Γ'.objs ++ [Ob.lst t e dd ys none])).objs Γ'.objs.length = .lst t e dd ys none := by
    show ogt (Γ'.objs ++ _) _ = _; rw [ogt_append, if_neg (by omega), if_pos rfl]
  rw [this]
  refine ⟨by show _ < (Γ'.objs ++ _).length; simp, rfl, cap, b1, o1, rfl, fun hc => ?_, hcl, by omega, arr', e', ?_, ?_⟩
  · obtain ⟨h1, h2⟩ := hb1 hc
    rw [← hmo, mg_new]; simp [h1, h2]
  · rw [← hmo, mg_new, setRow_heap', if_pos rfl, hB]
  · rw [← hmo, mg_new, hsz]; simpa using hcap


theorem Rep.drew {Z Z' : Nat → Prop} {t : Ty} {dd : Nat} {x : t.T} {cs : List Value} {fp : List Nat} (h : Rep w Z t dd x cs fp) (hz : ∀ b, Z b → Z' b) : Rep { w with drawn := w.drawn + 1 } Z' t dd x cs fp :=
  Rep.mono (w := w) (w' := { w with drawn := w.drawn + 1 }) hz (fun _ _ => rfl) h (fun _ _ => rfl)

/-- What is appended, in the kit's words. -/
theorem Src.kit {t : Ty} {dd : Nat} {vx : Value} {ys : List t.T} {cells : List Value} {mvs : List (List Nat)} (h : Src P w0 O0 Z0 fpl t dd Γ Γ' w vx ys cells mvs) {T2 : TypeId}
    (hk : (∃ e', P.underlying T2 = some (.slice e')) ∨ P.underlying T2 = some .string) : Go.Src P t.size T2 vx ys.length cells w where
  kind := hk
  len := fun w' => by
    have h1 := h.len
    cases vx <;> simp_all [Builtin.lenOf]
  cells := by
    have h1 := h.run ys.length (Nat.le_refl _)
    rw [← h.cl, List.take_length] at h1
    exact h1
  cellsD := by
    have h1 := h.run' ys.length (Nat.le_refl _)
    rw [← h.cl, List.take_length] at h1
    exact h1
  newsLen := h.cl
  one := h.one

theorem drop_take_get {cells : List Value} {n s k j : Nat} {v : Value} (h : ((cells.drop (k * s)).take s)[j]? = some v) (hc : cells.length = n * s) : j < s ∧ cells[k * s + j]? = some v := by
  have hj := (List.getElem?_eq_some_iff.1 h).1
  simp only [List.length_take, List.length_drop] at hj
  refine ⟨by omega, ?_⟩
  rw [List.getElem?_take, if_pos (by omega), List.getElem?_drop] at h
  exact h

include hti in
theorem opAppend_good (h : SR w0 O0 Z0 m0 os0 m fpl Γ a w) (hd : ∀ k, d = some k → k < Γ.n) {T T2 ty : TypeId} {s x : SV} {vs vx : Value} (hT : (ti T).ok = true) (hT2 : (ti T2).ok = true)
    (hk : (ti T2).sl ≠ none ∨ (ti T2).ty = some .str) (hs : opAppend (sC P ti own) Γ d T s x K)
    (hvs : SVr w (Zn w0 O0 Z0 w fpl) m Γ.objs s vs) (hvx : SVr w (Zn w0 O0 Z0 w fpl) m Γ.objs x vx) : Good w0 O0 Z0 m0 os0 K d a ((Builtin.append_ #[T, T2] ty #[vs, vx]).run P w) := by
  have hkind : (∃ e', P.underlying T2 = some (.slice e')) ∨ P.underlying T2 = some .string := by
    rcases hk with hk | hk
    · cases hsl : (ti T2).sl with
      | none => exact absurd hsl hk
      | some e => exact .inl ⟨e, ((hti T2 hT2).sl e hsl).1⟩
    · exact .inr ((hti T2 hT2).str hk)
  unfold opAppend at hs
  split at hs
  · rename_i e hsl
    obtain ⟨hu, he⟩ := (hti T hT).sl e hsl
    obtain ⟨i, z, hi, hz, hzv, _⟩ := (hti e he).zero
    have hisz : i.size = (ti e).sz := by have := (hti e he).sz; rw [hi] at this; simpa using this
    have hiby : i.bytes = (ti e).bytes := by have := (hti e he).bytes; rw [hi] at this; simpa using this
    have hzsz : z.cells.size = (ti e).sz := by rw [← (hti e he).zl, ← hzv]; simp
    split at hs
    · rename_i id off len
      simp only [SVr] at hvs
      obtain ⟨hid, h1c, hvs⟩ := hvs
      split at hs
      · rename_i t e' dd xs ho
        rw [ho] at hvs
        split at hs
        · rename_i ys Γ' hok hsrc
          obtain ⟨hsz, ⟨hb0, hroom⟩, hK⟩ := hs
          obtain ⟨cap, b1, o1, rfl, h0, h1, h2, arr, e1, h3, h4⟩ := hvs
          have hg : SR w0 O0 Z0 m0 os0 m fpl (Γ.setO (ost Γ.objs id .gone)) a w := h.less (Less.drop Γ id)
          obtain ⟨cells, mvs, hsr⟩ := src_good hg hsrc (hvx.less h (Less.drop Γ id))
          have hks := hsr.kit hkind
          have hlive : isGone (ogt Γ.objs id) = false := by rw [ho]; rfl
          have hgone : isGone (ogt (Γ.setO (ost Γ.objs id .gone)).objs id) = true := by
            show isGone (ogt (ost Γ.objs id .gone) id) = true
            rw [ogt_ost, if_pos ⟨rfl, hid⟩]; rfl
          have hb := h.ob.ob id hid
          unfold obR at hb
          rw [ho] at hb
          obtain ⟨arr', e2, fps, h5, h6, h7, h8, h9⟩ := hb
          rw [h3] at h5
          cases h5
          have hbid : (mg m id).b ∈ fpl.getD id [] := by rw [h8]; simp
          have hndid := getD_nodup h.ob.nodup id
          rw [h8] at hndid
          have hsub := dt_sub fps off len
          have hmv1 : Mv fpl Γ (Γ.setO (ost Γ.objs id .gone)) ((fps.drop off).take len).flatten :=
            ⟨(List.nodup_cons.1 hndid).2.sublist hsub, fun b hb => ⟨id, hid, hlive, hgone, by rw [h8]; exact List.mem_cons_of_mem _ (hsub.subset hb)⟩⟩
          have hmv : Mv fpl Γ Γ' ((fps.drop off).take len ++ mvs).flatten := by
            rw [List.flatten_append]
            exact Mv.append h.ob.nodup hmv1 hsr.mv (Less.drop Γ id) hsr.less
          have hnB : (mg m id).b ∉ ((fps.drop off).take len ++ mvs).flatten := by
            rw [List.flatten_append]
            intro hm
            rcases List.mem_append.1 hm with hm | hm
            · exact (List.nodup_cons.1 hndid).1 (hsub.subset hm)
            · obtain ⟨i', _, hl, _, hi'⟩ := hsr.mv.mem _ hm
              have := flatten_pair h.ob.nodup hi' hbid
              subst this
              rw [hgone] at hl; cases hl
          have hold : ∀ i, (hi : i < len) → ∃ ces, CellsAt w (mg m id).b ((mg m id).o + off * t.size + i * t.size) ces ∧ Rep w (Zn w0 O0 Z0 w fpl) t dd (xs[off + i]'(by omega)) ces (fps.getD (off + i) []) := by
            intro i hi
            rcases h9 (off + i) (by omega) with ⟨h10, _⟩ | ⟨_, ces, h11, h12⟩
            · cases h10
            · exact ⟨ces, by rw [Nat.add_mul, ← Nat.add_assoc] at h11; exact h11, h12⟩
          have hfl : ((fps.drop off).take len).length = len := by simp; omega
          have hro1 : rowsOwn t dd = false → ((fps.drop off).take len).flatten = [] := by
            intro hr
            rw [List.flatten_eq_nil_iff]
            intro l hl
            obtain ⟨i, hi, rfl⟩ := List.getElem_of_mem hl
            obtain ⟨ces, _, h12⟩ := hold i (by omega)
            have hx : ((fps.drop off).take len)[i] = fps.getD (off + i) [] := by
              have hlt : off + i < fps.length := by omega
              simp [List.getD_eq_getElem?_getD, hlt]
            rw [hx]
            simp only [okD, Bool.or_eq_true, beq_iff_eq] at hok
            rcases hok with hf | rfl | hisl
            · exact h12.flat_fp hf
            · exact h12.zero_fp
            · cases t with
              | sl e3 t3 => cases dd with
                | zero => exact h12.zero_fp
                | succ k => simp [rowsOwn] at hr
              | int => simp [Ty.isSl] at hisl
              | bool => simp [Ty.isSl] at hisl
              | str => simp [Ty.isSl] at hisl
              | unit => simp [Ty.isSl] at hisl
              | pair p q => simp [Ty.isSl] at hisl
          have hro : rowsOwn t dd = false → ((fps.drop off).take len ++ mvs).flatten = [] := by
            intro hr
            rw [List.flatten_append, hro1 hr, hsr.ro hr]; rfl
          have hxl : ((sC P ti own).w.ext xs off len).length = len := by
            show ((xs.drop off).take len).length = len
            simp; omega
          have hyl : ((sC P ti own).w.app ((sC P ti own).w.ext xs off len) ys).length = len + ys.length := by
            show (((sC P ti own).w.ext xs off len) ++ ys).length = _
            rw [List.length_append, hxl]
          have hml : ((fps.drop off).take len ++ mvs).length = ((sC P ti own).w.app ((sC P ti own).w.ext xs off len) ys).length := by
            rw [List.length_append, hfl, hsr.ml, hyl]
          have hel : ∀ i (hi : i < ((sC P ti own).w.app ((sC P ti own).w.ext xs off len) ys).length),
              (∃ hl : i < len, ((sC P ti own).w.app ((sC P ti own).w.ext xs off len) ys)[i] = xs[off + i]'(by omega) ∧ ((fps.drop off).take len ++ mvs).getD i [] = fps.getD (off + i) []) ∨
              (len ≤ i ∧ ∃ hl : i - len < ys.length, ((sC P ti own).w.app ((sC P ti own).w.ext xs off len) ys)[i] = ys[i - len] ∧ ((fps.drop off).take len ++ mvs).getD i [] = mvs.getD (i - len) []) := by
            intro i hi
            by_cases hlt : i < len
            · left
              refine ⟨hlt, ?_, ?_⟩
              · have h13 : ((sC P ti own).w.app ((sC P ti own).w.ext xs off len) ys)[i] = ((sC P ti own).w.ext xs off len)[i]'(by omega) := List.getElem_append_left (by omega)
                rw [h13]; exact ext_getElem _ _
              · simp only [List.getD_eq_getElem?_getD, List.getElem?_append_left (show i < ((fps.drop off).take len).length by omega), List.getElem?_take, if_pos hlt, List.getElem?_drop]
            · right
              have hi2 : i < len + ys.length := by rw [← hyl]; exact hi
              refine ⟨by omega, by omega, ?_, ?_⟩
              · have h13 : ((sC P ti own).w.app ((sC P ti own).w.ext xs off len) ys)[i] = ys[i - ((sC P ti own).w.ext xs off len).length]'(by omega) := List.getElem_append_right (by omega)
                rw [h13]
                simp only [hxl]
              · simp only [List.getD_eq_getElem?_getD, List.getElem?_append_right (show ((fps.drop off).take len).length ≤ i by omega), hfl]
          rw [hsz] at hisz hzsz
          have hcl := hsr.cl
          by_cases hfit : len + ys.length ≤ cap
          · -- there is room
            by_cases hc0 : cap = 0
            · have hl0 : len = 0 := by omega
              have hy0 : ys.length = 0 := by omega
              have hcells : cells = [] := List.length_eq_zero_iff.1 (by rw [hcl, hy0, Nat.zero_mul])
              have hrun : (Builtin.append_ #[T, T2] ty #[.slice (some ⟨b1, o1, none⟩) len cap, vx]).run P w = .ok (.slice (some ⟨b1, o1, none⟩) (len + ys.length) cap) (w.setRow (mg m id).b arr) := by
                rw [setRow_self w _ _ _ _ h3]
                have hst : ∀ ad, (storeCells ad ([] : List Value) 0).run P w = .ok () w := fun _ => rfl
                have hcl' := hks.cells
                rw [hcells] at hcl'
                rcases hkind with ⟨e'', hk⟩ | hk <;> simp [Builtin.append_, run_underlying hu, run_underlying hk, sizeOf, typeInfo, hi, hks.len, hfit, hisz, hcl', hst]
              refine ⟨_, _, _, hrun, hK, ?_⟩
              refine reuse_lst h hd hid hlive hsr.less h3 rfl hbid (o := (mg m id).o + off * t.size) hmv hnB hro hml ?_ ?_ ?_ (by omega) (by rw [hyl]; rfl) (fun hc => absurd hc0 hc)
              · rw [hyl, hl0, hy0]
                have : off * t.size ≤ xs.length * t.size := Nat.mul_le_mul_right _ (by omega)
                omega
              · intro i hi; omega
              · rw [hc0]; rw [hc0] at h4; simp at h4 ⊢; omega
            · obtain ⟨rfl, rfl⟩ := h0 hc0
              have hcapsz : (len + ys.length) * t.size ≤ cap * t.size := Nat.mul_le_mul_right _ hfit
              have hoff : (off + cap) * t.size = off * t.size + cap * t.size := Nat.add_mul _ _ _
              have hln : (len + ys.length) * t.size = len * t.size + ys.length * t.size := Nat.add_mul _ _ _
              have hput : (mg m id).o + off * t.size + len * t.size + cells.length ≤ arr.size := by omega
              have hst := run_storeCells_at (P := P) (mg m id).b ((mg m id).o + off * t.size + len * t.size) e1 cells 0 arr w h3 (by omega) hsr.one
              simp only [Nat.add_zero] at hst
              have hrun : (Builtin.append_ #[T, T2] ty #[.slice (some ⟨(mg m id).b, (mg m id).o + off * t.size, none⟩) len cap, vx]).run P w = .ok (.slice (some ⟨(mg m id).b, (mg m id).o + off * t.size, none⟩) (len + ys.length) cap)
                  (w.setRow (mg m id).b (arr.toList.take ((mg m id).o + off * t.size + len * t.size) ++ cells ++ arr.toList.drop ((mg m id).o + off * t.size + len * t.size + cells.length)).toArray) := by
                rcases hkind with ⟨e'', hk⟩ | hk <;> simp [-List.append_assoc, Builtin.append_, run_underlying hu, run_underlying hk, sizeOf, typeInfo, hi, hks.len, hfit, hisz, hks.cells, Addr.add_lit, hst]
              refine ⟨_, _, _, hrun, hK, ?_⟩
              refine reuse_lst h hd hid hlive hsr.less h3 (put_len rfl hput) hbid (o := (mg m id).o + off * t.size) hmv hnB hro hml (by rw [hyl]; omega) ?_ (by omega) (by rw [hyl]; exact hfit) (by rw [hyl]; rfl) (fun _ => ⟨rfl, rfl⟩)
              intro i hi
              rcases hel i hi with ⟨hl, h13, h14⟩ | ⟨hge, hl, h13, h14⟩
              · obtain ⟨ces, h15, h16⟩ := hold i hl
                refine ⟨ces, fun j v hj => ?_, ?_⟩
                · have hjl : j < t.size := by
                    have := (List.getElem?_eq_some_iff.1 hj).1
                    rwa [h16.len] at this
                  have hle : i * t.size + t.size ≤ len * t.size := by
                    have : (i + 1) * t.size ≤ len * t.size := Nat.mul_le_mul_right _ (by omega)
                    rwa [Nat.add_mul, Nat.one_mul] at this
                  rw [put_get rfl hput, if_neg (by omega)]
                  have := h15 j v hj
                  rwa [cell_of h3] at this
                · rw [h13, h14]
                  exact h16.mono (fun b hb => .inl hb) (fun _ _ => rfl) (fun _ _ => rfl)
              · refine ⟨(cells.drop ((i - len) * t.size)).take t.size, fun j v hj => ?_, ?_⟩
                · obtain ⟨hjl, hj2⟩ := drop_take_get hj hcl
                  have hle : (i - len) * t.size + t.size ≤ ys.length * t.size := by
                    have : (i - len + 1) * t.size ≤ ys.length * t.size := Nat.mul_le_mul_right _ (by omega)
                    rwa [Nat.add_mul, Nat.one_mul] at this
                  have him : i * t.size = len * t.size + (i - len) * t.size := by rw [← Nat.add_mul]; congr 1; omega
                  rw [put_get rfl hput, if_pos (by omega), ← hj2]
                  congr 1; omega
                · rw [h13, h14]
                  exact hsr.rep _ hl
          · -- there is none
            have hb0' : (ti e).bytes ≠ 0 := hb0
            have hneed : len + ys.length ≤ (len + ys.length) * (ti e).bytes := Nat.le_mul_of_pos_right _ (by omega)
            have hroom' : (len + ys.length) * (ti e).bytes ≤ 140737488355328 := hroom
            have hfits : Builtin.nextslicecap (len + ys.length) cap * i.bytes ≤ 281474976710656 := by
              have h13 := Nat.mul_le_mul_right (ti e).bytes (nextcap_le (n := len + ys.length) (c := cap) (by omega))
              rw [hiby]
              rw [Nat.mul_assoc] at h13
              omega
            have hh : ((len : Int) + (ys.length : Int)) ≤ 9223372036854775807 := by omega
            have hfc : (Builtin.firstCells i.size len (.slice (some ⟨b1, o1, none⟩) len cap)).run P w.drew = .ok (((arr.toList.drop ((mg m id).o + off * t.size)).take (len * t.size)).take (len * t.size)).toArray w.drew := by
              rw [hisz]
              refine run_first ?_ ?_
              · intro j v hj
                have hjl := (List.getElem?_eq_some_iff.1 hj).1
                simp only [List.length_take, List.length_drop] at hjl
                have hpos : 0 < len * t.size := by omega
                have hlen0 : 0 < len := Nat.pos_of_mul_pos_right hpos
                obtain ⟨rfl, rfl⟩ := h0 (by omega)
                rw [List.getElem?_take, if_pos (by omega), List.getElem?_drop] at hj
                show w.cell? _ = _
                rw [cell_of h3, ← Array.getElem?_toList]
                exact hj
              · have h14 : (off + cap) * t.size = off * t.size + cap * t.size := Nat.add_mul _ _ _
                have h15 : len * t.size ≤ cap * t.size := Nat.mul_le_mul_right _ h1
                simp; omega
            have hol : (((arr.toList.drop ((mg m id).o + off * t.size)).take (len * t.size)).take (len * t.size)).length = len * t.size := by
              have h14 : (off + cap) * t.size = off * t.size + cap * t.size := Nat.add_mul _ _ _
              have h15 : len * t.size ≤ cap * t.size := Nat.mul_le_mul_right _ h1
              simp; omega
            generalize hO : ((arr.toList.drop ((mg m id).o + off * t.size)).take (len * t.size)).take (len * t.size) = olds at hfc hol
            have hrun := run_append_grow_src (P := P) w T T2 ty e i z hu hi hz (some ⟨b1, o1, none⟩) len cap _ hfc vx ys.length cells (by rw [hisz]; exact hks) (by omega) (by simpa using hh) hfits
            have hge := grownCap_ge w (len + ys.length) cap e
            generalize grownCap w (len + ys.length) cap e = nc at hrun hge
            have hln : (len + ys.length) * t.size = len * t.size + ys.length * t.size := Nat.add_mul _ _ _
            have hncl : nc * t.size = (len + ys.length) * t.size + (nc - (len + ys.length)) * t.size := by rw [← Nat.add_mul]; congr 1; omega
            refine ⟨_, _, _, hrun, hK, ?_⟩
            have hget : ∀ (p : Nat) (v : Value), (olds ++ cells)[p]? = some v →
                ((olds ++ cells).toArray ++ Builtin.zeroCells z.cells (nc - (len + ys.length)))[p]? = some v := by
              intro p v hp
              rw [Array.getElem?_append_left (by simpa using (List.getElem?_eq_some_iff.1 hp).1)]
              simpa using hp
            refine new_lst h.drew hd ((Less.drop Γ id).trans hsr.less) (e' := e) hmv hro hml ?_ ?_ ?_ (by rw [hyl]; exact hge) (by rw [hyl]; rfl)
            · rw [hyl]
              simp [Builtin.zeroCells, hzsz]
              omega
            · intro i hi
              rcases hel i hi with ⟨hl, h13, h14⟩ | ⟨hge2, hl, h13, h14⟩
              · obtain ⟨ces, h15, h16⟩ := hold i hl
                refine ⟨ces, fun j v hj => hget _ _ ?_, ?_⟩
                · have hjl : j < t.size := by
                    have := (List.getElem?_eq_some_iff.1 hj).1
                    rwa [h16.len] at this
                  have hle : i * t.size + t.size ≤ len * t.size := by
                    have : (i + 1) * t.size ≤ len * t.size := Nat.mul_le_mul_right _ (by omega)
                    rwa [Nat.add_mul, Nat.one_mul] at this
                  rw [List.getElem?_append_left (by omega), ← hO, List.getElem?_take, if_pos (by omega), List.getElem?_take, if_pos (by omega), List.getElem?_drop]
                  have := h15 j v hj
                  rw [cell_of h3, ← Array.getElem?_toList] at this
                  rw [← this]; congr 1; omega
                · rw [h13, h14]
                  exact h16.drew (fun b hb => .inl hb)
              · refine ⟨(cells.drop ((i - len) * t.size)).take t.size, fun j v hj => hget _ _ ?_, ?_⟩
                · obtain ⟨hjl, hj2⟩ := drop_take_get hj hcl
                  have him : i * t.size = len * t.size + (i - len) * t.size := by rw [← Nat.add_mul]; congr 1; omega
                  rw [List.getElem?_append_right (by omega), hol, ← hj2]
                  congr 1; omega
                · rw [h13, h14]
                  refine (hsr.rep _ hl).drew (fun b hb => ?_)
                  rcases hb with hb | ⟨hr, hb⟩
                  · exact .inl hb
                  · exact .inr ⟨hr, hb.mono' (Less.drop Γ id)⟩
            · simp [Builtin.zeroCells, hzsz]
              omega
        · exact hs.elim
      · exact hs.elim
    · simp only [SVr] at hvs
      subst hvs
      split at hs
      · rename_i t hty
        split at hs
        · rename_i ys Γ' hsrc
          obtain ⟨hn0, ⟨hb0, hroom⟩, hK⟩ := hs
          have hn0' : 0 < ys.length := hn0
          have hb0' : (ti e).bytes ≠ 0 := hb0
          have hroom' : ys.length * (ti e).bytes ≤ 140737488355328 := hroom
          obtain ⟨cells, mvs, hsr⟩ := src_good h hsrc hvx
          have hks := hsr.kit hkind
          have hsz : (ti e).sz = t.size := ((hti e he).ty t hty).2
          rw [hsz] at hisz hzsz
          have hcl := hsr.cl
          have hneed : ys.length ≤ ys.length * (ti e).bytes := Nat.le_mul_of_pos_right _ (by omega)
          have hfits : Builtin.nextslicecap (0 + ys.length) 0 * i.bytes ≤ 281474976710656 := by
            have h13 := Nat.mul_le_mul_right (ti e).bytes (nextcap_le (n := 0 + ys.length) (c := 0) (by omega))
            rw [hiby]
            rw [Nat.mul_assoc, Nat.zero_add] at h13
            rw [Nat.zero_add]
            omega
          have hh : (((0 : Nat) : Int) + (ys.length : Int)) ≤ 9223372036854775807 := by omega
          have hfc : (Builtin.firstCells i.size 0 (.slice none 0 0)).run P w.drew = .ok ([] : List Value).toArray w.drew := rfl
          have hrun := run_append_grow_src (P := P) w T T2 ty e i z hu hi hz none 0 0 _ hfc vx ys.length cells (by rw [hisz]; exact hks) (by omega) (by simpa using hh) hfits
          have hge := grownCap_ge w (0 + ys.length) 0 e
          generalize grownCap w (0 + ys.length) 0 e = nc at hrun hge
          have hncl : nc * t.size = ys.length * t.size + (nc - (0 + ys.length)) * t.size := by rw [← Nat.add_mul]; congr 1; omega
          rw [Nat.zero_add] at hrun
          refine ⟨_, _, _, hrun, hK, ?_⟩
          have hget : ∀ (p : Nat) (v : Value), cells[p]? = some v → (([] ++ cells).toArray ++ Builtin.zeroCells z.cells (nc - ys.length))[p]? = some v := by
            intro p v hp
            rw [List.nil_append, Array.getElem?_append_left (by simpa using (List.getElem?_eq_some_iff.1 hp).1)]
            simpa using hp
          refine new_lst h.drew hd hsr.less (e' := e) (mvs := mvs) hsr.mv hsr.ro hsr.ml ?_ ?_ ?_ (by omega) rfl
          · simp [Builtin.zeroCells, hzsz]
            omega
          · intro i hi
            refine ⟨(cells.drop (i * t.size)).take t.size, fun j v hj => hget _ _ (drop_take_get hj hcl).2, ?_⟩
            exact (hsr.rep _ hi).drew (fun _ hb => hb)
          · simp [Builtin.zeroCells, hzsz]
            rw [Nat.zero_add] at hncl
            omega
        · exact hs.elim
      · exact hs.elim
    · exact hs.elim
  · exact hs.elim

end
end Go.Dm

/- A list is written; copy. -/
namespace Go.Dm
open Go

section
variable {P : Program} {ti : TypeId → TI} {own : Bool} (hti : ∀ t, (ti t).ok = true → TIok P ti t)
variable {w0 : World} {O0 : List Nat} {Z0 : Nat → Prop} {m0 : List OR} {os0 : List Ob} {m : List OR} {fpl : List (List Nat)} {Γ Γ' : St} {a : Act} {w : World} {K : St → Prop} {d : Option Nat}

/-- Where new elements' frozen parts lie. -/
def ZL (w0 : World) (O0 : List Nat) (Z0 : Nat → Prop) (w : World) (fpl : List (List Nat)) (Γ' : St) (mv : List Nat) (b : Nat) : Prop :=
  Zn w0 O0 Z0 w fpl b ∨ ∃ i, i < Γ'.objs.length ∧ isGone (ogt Γ'.objs i) = true ∧ b ∈ fpl.getD i [] ∧ b ∉ mv

/-- A list's row is written. -/
theorem lst_write (h : SR w0 O0 Z0 m0 os0 m fpl Γ a w) (hl : Less Γ Γ') {id : Nat} (hid : id < Γ.objs.length) {t : Ty} {e : TypeId} {dd : Nat} {xs : List t.T} {hole : Option Nat}
    (ho' : ogt Γ'.objs id = .lst t e dd xs hole) {arr arr' : Array Value} {e' : TypeId} (hB : w.heap[(mg m id).b]? = some (.cells arr e' (0, 0))) (hsz : arr'.size = arr.size)
    (ys : List t.T) (hy : ys.length = xs.length) (hole' : Option Nat) (fps' : List (List Nat)) (hfl : fps'.length = xs.length) (hnd : ((mg m id).b :: fps'.flatten).Nodup)
    (hfs : ∀ b ∈ fps'.flatten, b ∈ fpl.getD id [] ∨ ∃ i, i < Γ'.objs.length ∧ isGone (ogt Γ'.objs i) = true ∧ b ∈ fpl.getD i [])
    (hels : ∀ i (hi : i < ys.length), (hole' = some i ∧ fps'.getD i [] = []) ∨ (hole' ≠ some i ∧ ∃ ces : List Value, (∀ j v, ces[j]? = some v → arr'[(mg m id).o + i * t.size + j]? = some v) ∧
      Rep w (ZL w0 O0 Z0 w fpl Γ' ((mg m id).b :: fps'.flatten)) t dd ys[i] ces (fps'.getD i []))) :
    SR w0 O0 Z0 m0 os0 m ((live fpl (Γ'.killRows id).objs).set id ((mg m id).b :: fps'.flatten)) ((Γ'.setO (ost Γ'.objs id (.lst t e dd ys hole'))).killRows id) a (w.setRow (mg m id).b arr') := by
  have h' := h.less hl
  obtain ⟨hk, hnr, hnb⟩ := h'.killRows id
  have hidk : id < (Γ'.killRows id).objs.length := by show id < (krO id Γ'.objs).length; rw [krO_len, hl.len]; exact hid
  have hok : ogt (Γ'.killRows id).objs id = .lst t e dd xs hole := by show ogt (krO id Γ'.objs) id = _; rw [ogt_krO, ho']; rfl
  have hb := hk.ob.ob id hidk
  unfold obR at hb
  rw [hok] at hb
  obtain ⟨arr2, e2, fps, h9, h10, h11, h12, h13⟩ := hb
  rw [hB] at h9
  cases h9
  have hgk : ∀ i, isGone (ogt (Γ'.killRows id).objs i) = isGone (ogt Γ'.objs i) := by
    intro i; show isGone (ogt (krO id Γ'.objs) i) = _; rw [ogt_krO]; cases ogt Γ'.objs i <;> rfl
  have hkl : (Γ'.killRows id).objs.length = Γ'.objs.length := krO_len _ _
  have hset : (((Γ'.setO (ost Γ'.objs id (.lst t e dd ys hole'))).killRows id) : St) = (Γ'.killRows id).setO (ost (Γ'.killRows id).objs id (.lst t e dd ys hole')) := by
    simp only [St.killRows, St.setO, krO_ost]
  have hBm : (mg m id).b ∈ fpl.getD id [] := by rw [h12]; simp
  rw [hset]
  refine SR.write hk hidk (.lst t e dd ys hole') ((mg m id).b :: fps'.flatten) (· = id) hB hsz hBm (by rw [hok]; exact .inr ⟨_, _, rfl, hy⟩) hnd ?_ (.inl rfl) hnr hnb ?_
  · intro b hb
    rcases List.mem_cons.1 hb with hb | hb
    · exact .inl (by rw [hb]; exact hBm)
    · rcases hfs b hb with hb | ⟨i, h14, h15, h16⟩
      · exact .inl hb
      · exact .inr ⟨i, by rw [hkl]; exact h14, by rw [hgk]; exact h15, h16⟩
  · intro Z' hz hz2 S
    unfold obR
    rw [ogt_ost, if_pos ⟨rfl, hidk⟩]
    refine ⟨arr', e', fps', by rw [setRow_heap', if_pos rfl, hB], by rw [hsz, hy]; exact h10, by rw [hfl, hy], rfl, fun i hi => ?_⟩
    rcases hels i hi with h14 | ⟨h14, ces, h15, h16⟩
    · exact .inl h14
    · refine .inr ⟨h14, ces, fun j v hj => ?_, ?_⟩
      · rw [cell_of (by rw [setRow_heap', if_pos rfl, hB] : (w.setRow (mg m id).b arr').heap[(mg m id).b]? = some (.cells arr' e' (0, 0)))]
        exact h15 j v hj
      · have hzz : ∀ b, ZL w0 O0 Z0 w fpl Γ' ((mg m id).b :: fps'.flatten) b → Z' b ∧ b ≠ (mg m id).b := by
          intro b hb
          rcases hb with hb | ⟨i, h17, h18, h19, h20⟩
          · exact ⟨hz b hb, fun he => hb.2.2 (by rw [he]; exact flat_mem hBm)⟩
          · exact ⟨hz2 b i (by rw [hkl]; exact h17) (by rw [hgk]; exact h18) h19 h20, fun he => h20 (by rw [he]; simp)⟩
        refine h16.mono (fun b hb => (hzz b hb).1) (fun b hb => setRow_same (hzz b hb).2) (fun b hb => setRow_same ?_)
        intro he
        subst he
        exact (List.nodup_cons.1 hnd).1 (flat_mem hb)

theorem splice_len {α : Type} {xs ys : List α} {o : Nat} (h : o + ys.length ≤ xs.length) : (xs.take o ++ ys ++ xs.drop (o + ys.length)).length = xs.length := by
  simp; omega
theorem splice_get {α : Type} {xs ys : List α} {o i : Nat} (h : o + ys.length ≤ xs.length) (hi : i < (xs.take o ++ ys ++ xs.drop (o + ys.length)).length) :
    (∃ h1 : o ≤ i ∧ i - o < ys.length, (xs.take o ++ ys ++ xs.drop (o + ys.length))[i] = ys[i - o]) ∨ (¬ (o ≤ i ∧ i < o + ys.length) ∧ ∃ h1 : i < xs.length, (xs.take o ++ ys ++ xs.drop (o + ys.length))[i] = xs[i]) := by
  rw [splice_len h] at hi
  by_cases h1 : i < o
  · right
    refine ⟨by omega, hi, ?_⟩
    rw [List.getElem_append_left (by simp; omega), List.getElem_append_left (by simp; omega)]
    simp
  · by_cases h2 : i < o + ys.length
    · left
      refine ⟨by omega, ?_⟩
      rw [List.getElem_append_left (by simp; omega), List.getElem_append_right (by simp; omega)]
      congr 1; simp; omega
    · right
      refine ⟨by omega, hi, ?_⟩
      rw [List.getElem_append_right (by simp; omega)]
      simp only [List.getElem_drop]
      congr 1; simp; omega

def cpW (w : World) (b o : Nat) (arr : Array Value) : List Value → World
  | [] => w
  | c :: r => w.setRow b (arr.toList.take o ++ (c :: r) ++ arr.toList.drop (o + (c :: r).length)).toArray

theorem cpW_eq {B p b o : Nat} {arr : Array Value} {e : TypeId} {f : Nat × Nat} {cs : List Value} (hB : w.heap[B]? = some (.cells arr e f)) (h : cs ≠ [] → b = B ∧ o = p) :
    cpW w b o arr cs = w.setRow B (arr.toList.take p ++ cs ++ arr.toList.drop (p + cs.length)).toArray := by
  cases cs with
  | nil => simp [cpW, setRow_self w _ _ _ _ hB]
  | cons c r =>
    obtain ⟨rfl, rfl⟩ := h (by simp)
    rfl

theorem run_copy_any {dT sT ty elem : TypeId} {b o dLen dCap n k s : Nat} {vx : Value} {cs : List Value} {arr : Array Value} {t : TypeId} (hu : P.underlying dT = some (.slice elem)) (hs : (sizeOf elem).run P w = .ok s w)
    (hlen : (Builtin.lenOf vx).run P w = .ok n w) (hk : k = Nat.min n dLen) (hc : (Builtin.firstCells s k vx).run P w = .ok cs.toArray w) (h1 : ∀ v ∈ cs, v.oneCell' = true)
    (hB : cs ≠ [] → w.heap[b]? = some (.cells arr t (0, 0))) (hfit : cs ≠ [] → o + cs.length ≤ arr.size) :
    (Builtin.copy_ #[dT, sT] ty #[.slice (some ⟨b, o, none⟩) dLen dCap, vx]).run P w = .ok (goInt k)
      (cpW w b o arr cs) := by
  subst hk
  cases cs with
  | nil =>
    have hst : (storeCells ⟨b, o, none⟩ ([] : List Value) 0).run P w = .ok () w := rfl
    simp [Builtin.copy_, run_underlying hu, hlen, hs, hc, hst, cpW]
  | cons c r =>
    have hst := run_storeCells_at P b o t (c :: r) 0 arr w (hB (by simp)) (by simpa using hfit (by simp)) h1
    simp [-List.cons_append, -List.append_assoc, Builtin.copy_, run_underlying hu, hlen, hs, hc, hst, cpW]


theorem flat_own {t : Ty} {dd : Nat} (h : (t.flat || dd == 0) = true) {Z : Nat → Prop} {x : t.T} {cs : List Value} {fp : List Nat} (hr : Rep w Z t dd x cs fp) : fp = [] := by
  simp only [Bool.or_eq_true, beq_iff_eq] at h
  rcases h with h | rfl
  · exact hr.flat_fp h
  · exact hr.zero_fp

theorem repl_flat (n : Nat) : (List.replicate n ([] : List Nat)).flatten = [] := by simp

include hti in
theorem opCopy_good (h : SR w0 O0 Z0 m0 os0 m fpl Γ a w) (hd : ∀ k, d = some k → k < Γ.n) {T T2 ty : TypeId} {s x : SV} {vs vx : Value} (hT : (ti T).ok = true) (hs : opCopy (sC P ti own) Γ d T s x K)
    (hvs : SVr w (Zn w0 O0 Z0 w fpl) m Γ.objs s vs) (hvx : SVr w (Zn w0 O0 Z0 w fpl) m Γ.objs x vx) : Good w0 O0 Z0 m0 os0 K d a ((Builtin.copy_ #[T, T2] ty #[vs, vx]).run P w) := by
  unfold opCopy at hs
  split at hs
  · rename_i id off len
    simp only [SVr] at hvs
    obtain ⟨hid, h1c, hvs⟩ := hvs
    split at hs
    · rename_i t e dd xs ho
      rw [ho] at hvs
      obtain ⟨hsl, hs⟩ := hs
      obtain ⟨el, hu, hszr, _, _⟩ := slOk_und (w := w) hti hT hsl
      obtain ⟨cap, b1, o1, rfl, h0, h1, h2, arr, e1, h3, h4⟩ := hvs
      have hb := h.ob.ob id hid
      unfold obR at hb
      rw [ho] at hb
      obtain ⟨arr', e2, fps, h5, h6, h7, h8, h9⟩ := hb
      rw [h3] at h5
      cases h5
      have hoffcap : (off + cap) * t.size = off * t.size + cap * t.size := Nat.add_mul _ _ _
      split at hs
      · rename_i hfd
        split at hs
        · rename_i ys Γ' hsrc
          obtain ⟨cells, mvs, hsr⟩ := src_good h hsrc hvx
          have hl := hsr.less
          split at hs
          · rename_i t2 e3 d2 xs2 hole2 ho2
            have ho' : ogt Γ'.objs id = .lst t e dd xs none := by
              rcases hl.ob id with h10 | h10
              · rw [h10, ho]
              · rw [h10] at ho2; cases ho2
            have hro : rowsOwn t dd = false := by
              simp only [Bool.or_eq_true, beq_iff_eq] at hfd
              exact flat_ro hfd
            have hkl : Nat.min len ys.length ≤ ys.length := Nat.min_le_right _ _
            have hkl2 : Nat.min len ys.length ≤ len := Nat.min_le_left _ _
            have hks : Nat.min len ys.length * t.size ≤ ys.length * t.size := Nat.mul_le_mul_right _ hkl
            have hks2 : Nat.min len ys.length * t.size ≤ cap * t.size := Nat.mul_le_mul_right _ (Nat.le_trans hkl2 h1)
            have hmin : (sC P ti own).w.minN ((sC P ti own).w.len ys) len = Nat.min len ys.length := rfl
            rw [hmin] at hs
            generalize hkd : Nat.min len ys.length = k at hkl hkl2 hks hks2 hs
            have hcl := hsr.cl
            have hcsl : (cells.take (k * t.size)).length = k * t.size := by simp; omega
            have hext : (sC P ti own).w.ext ys 0 k = ys.take k := by show (ys.drop 0).take k = _; rw [List.drop_zero]
            have hextl : (ys.take k).length = k := by simp; omega
            have hrun := run_copy_any (P := P) (w := w) (dT := T) (sT := T2) (ty := ty) (b := b1) (o := o1) (dLen := len) (dCap := cap) (arr := arr) (t := e1) hu hszr hsr.len (k := k) (by rw [← hkd]; exact Nat.min_comm _ _) (hsr.run k hkl) (fun v hv => hsr.one v (List.mem_of_mem_take hv))
              (fun hne => by
                have hk0 : k ≠ 0 := by intro hk0; rw [hk0] at hne; simp at hne
                obtain ⟨rfl, _⟩ := h0 (by omega)
                exact h3)
              (fun hne => by
                have hk0 : k ≠ 0 := by intro hk0; rw [hk0] at hne; simp at hne
                obtain ⟨_, rfl⟩ := h0 (by omega)
                omega)
            have hput : (mg m id).o + off * t.size + (cells.take (k * t.size)).length ≤ arr.size := by omega
            have hworld : cpW w b1 o1 arr (cells.take (k * t.size)) = w.setRow (mg m id).b (arr.toList.take ((mg m id).o + off * t.size) ++ cells.take (k * t.size) ++ arr.toList.drop ((mg m id).o + off * t.size + (cells.take (k * t.size)).length)).toArray :=
              cpW_eq h3 fun hne => h0 (by
                intro hc0
                have hk0 : k ≠ 0 := by intro hk0; rw [hk0] at hne; simp at hne
                omega)
            rw [hworld] at hrun
            refine ⟨_, _, _, hrun, hs, _, _, (lst_write h hl hid ho' h3 (put_len rfl hput) _ (by show (xs.take off ++ _ ++ _).length = _; rw [hext]; exact splice_len (by rw [hextl]; omega)) none (List.replicate xs.length []) (by simp) (by rw [repl_flat]; simp) (by rw [repl_flat]; simp) ?_).put (fun k hk => by have := hd k hk; rw [← hl.n] at this; exact this) svr_int⟩
            intro i hi
            right
            refine ⟨by simp, ?_⟩
            have hsp : (sC P ti own).w.splice xs off ((sC P ti own).w.ext ys 0 k) = xs.take off ++ ys.take k ++ xs.drop (off + (ys.take k).length) := by rw [hext]; rfl
            have hi' : i < xs.length := by
              have h10 := hi
              rw [hsp, splice_len (by rw [hextl]; omega)] at h10
              exact h10
            have hi2 : i < (xs.take off ++ ys.take k ++ xs.drop (off + (ys.take k).length)).length := by rw [splice_len (by rw [hextl]; omega)]; exact hi'
            have hgi : ((sC P ti own).w.splice xs off ((sC P ti own).w.ext ys 0 k))[i] = (xs.take off ++ ys.take k ++ xs.drop (off + (ys.take k).length))[i] := by
              exact List.getElem_of_eq hsp hi
            suffices hsuf : ∃ ces : List Value, (∀ j v, ces[j]? = some v → (arr.toList.take ((mg m id).o + off * t.size) ++ cells.take (k * t.size) ++ arr.toList.drop ((mg m id).o + off * t.size + (cells.take (k * t.size)).length)).toArray[(mg m id).o + i * t.size + j]? = some v) ∧
                Rep w (ZL w0 O0 Z0 w fpl Γ' ((mg m id).b :: (List.replicate xs.length ([] : List Nat)).flatten)) t dd (xs.take off ++ ys.take k ++ xs.drop (off + (ys.take k).length))[i] ces [] by
              obtain ⟨ces, hs1, hs2⟩ := hsuf
              refine ⟨ces, hs1, ?_⟩
              rw [getD_rep]
              exact (congrArg (fun z => Rep w (ZL w0 O0 Z0 w fpl Γ' ((mg m id).b :: (List.replicate xs.length ([] : List Nat)).flatten)) t dd z ces []) hgi).mpr hs2
            have hp1 : ∀ q, i < q → i * t.size + t.size ≤ q * t.size := by
              intro q hq
              have : (i + 1) * t.size ≤ q * t.size := Nat.mul_le_mul_right _ (by omega)
              rwa [Nat.add_mul, Nat.one_mul] at this
            rcases splice_get (xs := xs) (ys := ys.take k) (o := off) (by rw [hextl]; omega) hi2 with ⟨⟨h10, h11⟩, h12⟩ | ⟨h10, h11, h12⟩
            · rw [h12]
              rw [hextl] at h11
              have him : i * t.size = off * t.size + (i - off) * t.size := by rw [← Nat.add_mul]; congr 1; omega
              have hle : (i - off) * t.size + t.size ≤ k * t.size := by
                have : (i - off + 1) * t.size ≤ k * t.size := Nat.mul_le_mul_right _ (by omega)
                rwa [Nat.add_mul, Nat.one_mul] at this
              refine ⟨(cells.drop ((i - off) * t.size)).take t.size, fun j v hj => ?_, ?_⟩
              · obtain ⟨hjl, hj2⟩ := drop_take_get hj hcl
                rw [put_get rfl hput, hcsl, if_pos (by omega), List.getElem?_take, if_pos (by omega), ← hj2]
                congr 1; omega
              · have h13 := hsr.rep (i - off) (by omega)
                have h14 := hsr.ro hro
                have h15 : mvs.getD (i - off) [] = [] := flat_own hfd h13
                rw [h15] at h13
                simp only [List.getElem_take]
                refine h13.mono (fun b hb => ?_) (fun _ _ => rfl) (fun _ _ => rfl)
                rcases hb with hb | ⟨_, hb | ⟨i', h16, h17, h18, h19⟩⟩
                · exact .inl hb
                · exact .inl hb
                · refine .inr ⟨i', by rw [hl.len]; exact h16, h18, h19, ?_⟩
                  rw [repl_flat]
                  intro hm
                  simp only [List.mem_singleton] at hm
                  subst hm
                  have := flatten_pair h.ob.nodup h19 (show (mg m id).b ∈ fpl.getD id [] by rw [h8]; simp)
                  subst this
                  rw [ho'] at h18; cases h18
            · rw [h12]
              rw [hextl] at h10
              rcases h9 i h11 with ⟨h13, _⟩ | ⟨_, ces, h14, h15⟩
              · cases h13
              · have h16 : fps.getD i [] = [] := flat_own hfd h15
                rw [h16] at h15
                refine ⟨ces, fun j v hj => ?_, h15.mono (fun b hb => .inl hb) (fun _ _ => rfl) (fun _ _ => rfl)⟩
                have hjl : j < t.size := by
                  have := (List.getElem?_eq_some_iff.1 hj).1
                  rwa [h15.len] at this
                have hout : ¬ ((mg m id).o + off * t.size ≤ (mg m id).o + i * t.size + j ∧ (mg m id).o + i * t.size + j < (mg m id).o + off * t.size + k * t.size) := by
                  intro hh
                  by_cases h17 : i < off
                  · have := hp1 off h17; omega
                  · have h18 : (off + k) * t.size ≤ i * t.size := Nat.mul_le_mul_right _ (by omega)
                    rw [Nat.add_mul] at h18
                    omega
                rw [put_get rfl hput, hcsl, if_neg hout]
                have := h14 j v hj
                rwa [cell_of h3] at this
          · exact hs.elim
        · exact hs.elim
      · -- rows of its own, one place up
        split at hs
        · rename_i id' off' len'
          split at hs
          · rename_i hisl
            obtain ⟨rfl, g1, g2, g3, hK⟩ := hs
            have g1' : off = off' + 1 := g1
            have g2' : len' = len + 1 := g2
            have g3' : off + len = xs.length := g3
            subst g1'; subst g2'
            have hsz1 : t.size = 1 := by cases t <;> simp [Ty.isSl] at hisl; rfl
            rw [hsz1] at h0 h4 h6 hszr hoffcap
            simp only [SVr] at hvx
            obtain ⟨_, _, hvx⟩ := hvx
            rw [ho] at hvx
            obtain ⟨cap2, b2, o2, rfl, k0, k1, k2, arr3, e3, k3, k4⟩ := hvx
            rw [h3] at k3
            cases k3
            obtain ⟨rfl, rfl⟩ := k0 (by omega)
            rw [hsz1] at k4
            simp only [hsz1, Nat.mul_one] at h0 h4 h6 hoffcap k4
            have hcsl : ((arr.toList.drop ((mg m id').o + off')).take len).length = len := by simp; omega
            generalize hcs : (arr.toList.drop ((mg m id').o + off')).take len = cs at hcsl
            have hcsg : ∀ j, j < len → cs[j]? = arr[(mg m id').o + off' + j]? := by
              intro j hj
              rw [← hcs, List.getElem?_take, if_pos hj, List.getElem?_drop]; simp
            have hput : (mg m id').o + (off' + 1) + cs.length ≤ arr.size := by omega
            have hone : ∀ v ∈ cs, v.oneCell' = true := by
              intro v hv
              obtain ⟨j, hj, rfl⟩ := List.getElem_of_mem hv
              have hjg := hcsg j (by omega)
              rw [List.getElem?_eq_getElem hj] at hjg
              rcases h9 (off' + j) (by omega) with ⟨h10, _⟩ | ⟨_, ces, h11, h12⟩
              · cases h10
              · have hcl := h12.len
                rw [hsz1] at hcl
                obtain ⟨u, rfl⟩ := List.length_eq_one_iff.1 hcl
                have h13 := h11 0 u rfl
                rw [hsz1, cell_of h3, Nat.mul_one, Nat.add_zero, ← Nat.add_assoc, ← hjg] at h13
                cases h13
                exact h12.one _ (by simp)
            have hrun := run_copy_any (P := P) (w := w) (dT := T) (sT := T2) (ty := ty) (b := b1) (o := o1) (dLen := len) (dCap := cap) (arr := arr) (t := e1) (n := len + 1) (k := len) (cs := cs)
              (vx := .slice (some ⟨(mg m id').b, (mg m id').o + off' * t.size, none⟩) (len + 1) cap2) hu hszr rfl (Nat.min_eq_right (Nat.le_succ _)).symm
              (by
                rw [hsz1]
                have := run_first (P := P) (w := w) (b := (mg m id').b) (o := (mg m id').o + off' * 1) (n := len) (s := 1) (c := cap2) (L := len + 1) (cells := cs) (fun j v hj => by
                  have hjl := (List.getElem?_eq_some_iff.1 hj).1
                  rw [hcsg j (by omega)] at hj
                  show w.cell? _ = _
                  rw [cell_of h3, Nat.mul_one]
                  exact hj) (by omega)
                have ht : cs.take (len * 1) = cs := List.take_of_length_le (by omega)
                rw [ht] at this
                rw [Nat.mul_one] at this ⊢
                exact this)
              hone (fun hne => by
                have hk0 : len ≠ 0 := by intro hk0; exact hne (List.length_eq_zero_iff.1 (by omega))
                obtain ⟨rfl, _⟩ := h0 (by omega)
                exact h3)
              (fun hne => by
                have hk0 : len ≠ 0 := by intro hk0; exact hne (List.length_eq_zero_iff.1 (by omega))
                obtain ⟨_, rfl⟩ := h0 (by omega)
                omega)
            rw [cpW_eq h3 (p := (mg m id').o + (off' + 1)) (fun hne => h0 (by
              have hk0 : len ≠ 0 := by intro hk0; exact hne (List.length_eq_zero_iff.1 (by omega))
              omega))] at hrun
            have hyl : (xs.take (off' + 1) ++ (xs.drop off').take (xs.length - off' - 1)).length = xs.length := by simp; omega
            have hyg : ∀ i (hi : i < (xs.take (off' + 1) ++ (xs.drop off').take (xs.length - off' - 1)).length), (xs.take (off' + 1) ++ (xs.drop off').take (xs.length - off' - 1))[i] = if hlt : i ≤ off' then xs[i]'(by omega) else xs[i - 1]'(by omega) := by
              intro i hi
              split
              · rw [List.getElem_append_left (by simp; omega)]; simp
              · rw [List.getElem_append_right (by simp; omega)]
                simp only [List.getElem_take, List.getElem_drop]
                congr 1; simp; omega
            have hfl : (fps.take off' ++ [[]] ++ (fps.drop off').take (xs.length - off' - 1)).length = xs.length := by simp; omega
            have hfg : ∀ i, i < xs.length → (fps.take off' ++ [[]] ++ (fps.drop off').take (xs.length - off' - 1)).getD i [] = if i < off' then fps.getD i [] else if i = off' then [] else fps.getD (i - 1) [] := by
              intro i hi
              simp only [List.getD_eq_getElem?_getD]
              by_cases c1 : i < off'
              · rw [if_pos c1, List.append_assoc, List.getElem?_append_left (by simp; omega), List.getElem?_take, if_pos c1]
              · rw [if_neg c1]
                by_cases c2 : i = off'
                · subst c2
                  have hln : (fps.take i).length = i := by simp; omega
                  rw [if_pos rfl, List.append_assoc, List.getElem?_append_right (by omega), hln, Nat.sub_self]; simp
                · rw [if_neg c2, List.getElem?_append_right (by simp; omega), List.getElem?_take, if_pos (by simp; omega), List.getElem?_drop]
                  congr 2; simp; omega
            have hff : (fps.take off' ++ [[]] ++ (fps.drop off').take (xs.length - off' - 1)).flatten.Sublist fps.flatten := by
              have e1 : (fps.take off' ++ [[]] ++ (fps.drop off').take (xs.length - off' - 1)).flatten = (fps.take off').flatten ++ ((fps.drop off').take (xs.length - off' - 1)).flatten := by simp
              rw [e1]
              conv => rhs; rw [← List.take_append_drop off' fps, List.flatten_append]
              refine List.Sublist.append (List.Sublist.refl _) ?_
              conv => rhs; rw [← List.take_append_drop (xs.length - off' - 1) (fps.drop off'), List.flatten_append]
              exact List.sublist_append_left _ _
            have hnd0 := getD_nodup h.ob.nodup id'
            rw [h8] at hnd0
            refine ⟨_, _, _, hrun, hK, _, _, (lst_write h (Less.refl Γ) hid ho h3 (put_len rfl hput) _ hyl (some off') (fps.take off' ++ [[]] ++ (fps.drop off').take (xs.length - off' - 1)) hfl (hnd0.sublist (List.Sublist.cons_cons _ hff))
              (fun b hb => .inl (by rw [h8]; exact List.mem_cons_of_mem _ (hff.subset hb))) ?_).put hd svr_int⟩
            intro i hi
            have hi' : i < xs.length := by rw [← hyl]; exact hi
            by_cases c2 : i = off'
            · left
              refine ⟨by rw [c2], ?_⟩
              rw [hfg i hi', if_neg (by omega), if_pos c2]
            · right
              refine ⟨by simp; omega, ?_⟩
              rw [hyg i hi, hfg i hi']
              by_cases c1 : i < off'
              · rw [dif_pos (by omega), if_pos c1]
                rcases h9 i hi' with ⟨h10, _⟩ | ⟨_, ces, h11, h12⟩
                · cases h10
                · refine ⟨ces, fun j v hj => ?_, h12.mono (fun b hb => .inl hb) (fun _ _ => rfl) (fun _ _ => rfl)⟩
                  have hjl : j < t.size := by
                    have := (List.getElem?_eq_some_iff.1 hj).1
                    rwa [h12.len] at this
                  rw [hsz1] at hjl
                  rw [hsz1, put_get rfl hput, if_neg (by omega)]
                  have := h11 j v hj
                  rwa [cell_of h3, hsz1] at this
              · rw [dif_neg (by omega), if_neg c1, if_neg c2]
                rcases h9 (i - 1) (by omega) with ⟨h10, _⟩ | ⟨_, ces, h11, h12⟩
                · cases h10
                · refine ⟨ces, fun j v hj => ?_, h12.mono (fun b hb => .inl hb) (fun _ _ => rfl) (fun _ _ => rfl)⟩
                  have hjl : j < t.size := by
                    have := (List.getElem?_eq_some_iff.1 hj).1
                    rwa [h12.len] at this
                  rw [hsz1] at hjl
                  have := h11 j v hj
                  rw [cell_of h3, hsz1] at this
                  rw [hsz1, put_get rfl hput, if_pos (by omega), hcsg _ (by omega), ← this]
                  congr 1; omega
          · exact hs.elim
        · exact hs.elim
    · exact hs.elim
  · exact hs.elim

end
end Go.Dm

/- Conversions, struct values, and what else there is. -/
namespace Go.Dm
open Go

section
variable {P : Program} {ti : TypeId → TI} {own : Bool} (hti : ∀ t, (ti t).ok = true → TIok P ti t)
variable {w0 : World} {O0 : List Nat} {Z0 : Nat → Prop} {m0 : List OR} {os0 : List Ob} {m : List OR} {fpl : List (List Nat)} {Γ Γ' : St} {a : Act} {w : World} {K : St → Prop} {d : Option Nat}

/-- A block that is nobody's. -/
theorem SR.more (h : SR w0 O0 Z0 m0 os0 m fpl Γ a w) (o : Obj) : SR w0 O0 Z0 m0 os0 m fpl Γ a (w.alloc o) ∧ Zn w0 O0 Z0 (w.alloc o) fpl w.heap.size := by
  have hsz : (w.alloc o).heap.size = w.heap.size + 1 := by show (w.heap.push _).size = _; simp
  have h1 := (SR.next h (w' := w.alloc o) (m2 := []) (fpl' := fpl) (objs' := Γ.objs) (fun _ => False) (by simp [h.ob.ml]) h.ob.fl
    (fun b hb => ⟨.inl hb, by rw [hsz]; have := (h.ob.own b hb).1; omega⟩) h.ob.nodup (Keep.alloc _ _ _) (fun _ _ => ObLe.refl _)
    (fun id hid _ hx => by
      obtain ⟨e1, t1, e2, d1, xs1, hole1, ho⟩ := hx
      have hb := h.ob.ob id hid
      unfold obR at hb
      rw [ho] at hb
      obtain ⟨_, _, fps, _, _, _, h4, _⟩ := hb
      rw [push_heap, if_pos (h.ob.own _ (flat_mem (i := id) (by rw [h4]; simp))).1])
    (fun _ sv _ => nr_false sv) (fun _ _ cs _ => nrs_false cs)
    (fun _ i hi => .inl ⟨hi, rfl, rfl, fun b hb => by rw [push_heap, if_pos (h.ob.own _ (flat_mem hb)).1]⟩)).2
  refine ⟨by simpa [St.setO] using h1, .inr (.inr h.ob.keep.size), by rw [hsz]; omega, fun hm => ?_⟩
  have := (h.ob.own _ hm).1
  omega

include hti in
theorem und_ti {T : TypeId} (hT : (ti T).ok = true) : ∃ d, P.underlying T = some d := by
  obtain ⟨d, hd, _⟩ := (hti T hT).und
  exact ⟨d, hd⟩

theorem foldl_push : ∀ (l : List Int) (r : ByteArray), l.foldl (fun r n => r.push (UInt8.ofNat n.toNat)) r = ⟨r.data ++ (l.map fun n => UInt8.ofNat n.toNat).toArray⟩
  | [], r => by simp
  | b :: l, r => by
    simp only [List.foldl_cons, List.map_cons]
    rw [foldl_push l]
    simp [ByteArray.push]

include hti in
theorem opConvert_good (h : SR w0 O0 Z0 m0 os0 m fpl Γ a w) (hd : ∀ k, d = some k → k < Γ.n) {S T : TypeId} {x : SV} {vx : Value} (hS : (ti S).ok = true) (hT : (ti T).ok = true)
    (hs : opConvert (sC P ti own) Γ d S T x K) (hx : SVr w (Zn w0 O0 Z0 w fpl) m Γ.objs x vx) : Good w0 O0 Z0 m0 os0 K d a ((convert S T vx).run P w) := by
  obtain ⟨dS, huS⟩ := und_ti hti hS
  unfold opConvert at hs
  split at hs
  · rename_i _ n k hty
    simp only [SVr] at hx
    subst hx
    have huT := (hti T hT).int k hty
    refine good_made h hd hs ?_
    simp [convert, run_underlying huS, run_underlying huT, Conv.intToInt]
  · rename_i s _ hty
    simp only [SVr] at hx
    subst hx
    have huT := (hti T hT).str hty
    refine good_put h hd hs ?_ svr_str
    cases dS <;> simp [convert, run_underlying huS, run_underlying huT]
  · rename_i s e hty hsl
    simp only [SVr] at hx
    subst hx
    obtain ⟨huT, he⟩ := (hti T hT).sl e hsl
    split at hs
    · rename_i hte
      obtain ⟨hSs, hK⟩ := hs
      have hrun := run_bytes_of_string (P := P) w S T e ⟨s.toArray⟩ ((hti S hS).str hSs) huT ((hti e he).int .u8 hte)
      have hge := grownCap_ge w (⟨s.toArray⟩ : ByteArray).size 0 e
      obtain ⟨h1, h2⟩ := h.drew.more (.cells (bytesRow ⟨s.toArray⟩ (grownCap w (⟨s.toArray⟩ : ByteArray).size 0 e)) e ((bytesRow ⟨s.toArray⟩ (grownCap w (⟨s.toArray⟩ : ByteArray).size 0 e)).size, (bytesRow ⟨s.toArray⟩ (grownCap w (⟨s.toArray⟩ : ByteArray).size 0 e)).size + 1))
      refine ⟨_, _, _, hrun, hK, _, _, h1.put hd ?_⟩
      generalize grownCap w (⟨s.toArray⟩ : ByteArray).size 0 e = nc at hge h2 ⊢
      simp only [SVr]
      have hl : ((sC P ti own).w.ints s).length = s.length := List.length_map _
      refine ⟨rfl, _, nc, by rw [hl]; rfl, by rw [hl]; exact hge, .inr ⟨_, _, rfl, h2, fun i hi => ?_⟩⟩
      rw [hl] at hi
      refine ⟨[.int .u8 (s[i].toNat : Int)], fun j v hj => ?_, ?_, rfl⟩
      · have hj0 : j = 0 := by
          have := (List.getElem?_eq_some_iff.1 hj).1
          simpa using this
        subst hj0
        have hv : v = .int .u8 (s[i].toNat : Int) := by simpa using hj.symm
        subst hv
        rw [cell_eq]
        show (match (w.heap.push _)[w.heap.size]? with | some (.cells c _ _) => c[_]? | _ => none) = _
        simp [bytesRow, Ty.size, Array.getElem?_append, hi, ByteArray.size]
      · have : ((sC P ti own).w.ints s)[i]'(by rw [hl]; exact hi) = (s[i].toNat : Int) := List.getElem_map (fun b : UInt8 => (b.toNat : Int))
        rw [this]
    · exact hs.elim
  · rename_i v _ hty
    have huT := (hti T hT).str hty
    split at hs
    · rename_i e _ xs hsl hq
      obtain ⟨huS', he⟩ := (hti S hS).sl e hsl
      obtain ⟨hte, hK⟩ := hs
      obtain ⟨A, c, rfl, hc, h1⟩ := seq_rep h hq hx
      have hb : (sC P ti own).w.bytes xs = xs.map fun n => UInt8.ofNat n.toNat := rfl
      refine good_put h hd hK (v := .string ⟨(xs.map fun n => UInt8.ofNat n.toNat).toArray⟩) ?_ svr_str
      rw [run_convert_bytes_string w S T e A xs.length c huS' ((hti e he).int .u8 hte) huT]
      cases A with
      | none =>
        rcases h1 with h1 | ⟨b, o, h1, _⟩
        · rw [h1]; simp [Conv.bytesToString]; rfl
        · cases h1
      | some ad =>
        have hl : (loadCells ad xs.length).run P w = .ok (xs.map (Value.int .u8)).toArray w := by
          rcases h1 with h1 | ⟨b, o, h1, _, h2⟩
          · rw [h1]; rfl
          · cases h1
            have hadd : ∀ j, (⟨b, o, none⟩ : Addr).add j = ⟨b, o + j, none⟩ := by intro j; unfold Addr.add; split <;> simp_all
            have h3 := run_loadCells_list (P := P) w ⟨b, o, none⟩ (xs.map (Value.int .u8)) (fun j v hj => by
              rw [hadd]
              rw [List.getElem?_map] at hj
              obtain ⟨n, hn, rfl⟩ := Option.map_eq_some_iff.1 hj
              obtain ⟨hjl, hjn⟩ := List.getElem?_eq_some_iff.1 hn
              obtain ⟨ces, h4, h5, _⟩ := h2 j hjl
              have := h4 0 (.int .u8 n) (by rw [h5, hjn]; rfl)
              simpa [Ty.size] using this)
            rw [List.length_map] at h3
            exact h3
        rw [run_bytesToString w ad xs.length c xs hl, foldl_push]
        simp
    · exact hs.elim
  · exact hs.elim


theorem fold_put {v : Value} {al : Array Value} {off : Nat} (h : off + v.cells.size ≤ al.size) :
    v.cells.zipIdx.foldl (fun cs x => match x with | (c, j) => cs.setIfInBounds (off + j) c) al = (al.toList.take off ++ v.cells.toList ++ al.toList.drop (off + v.cells.size)).toArray := by
  have heq : v.cells.zipIdx.foldl (fun cs x => match x with | (c, j) => cs.setIfInBounds (off + j) c) al =
      (v.cells.toList.zipIdx 0).foldl (fun (acc : Array Value) (p : Value × Nat) => acc.setIfInBounds (off + p.2) p.1) al := by
    rw [← Array.foldl_toList, Array.toList_zipIdx]
  have hb := foldl_set v.cells.toList off 0 al (by simpa using h)
  rw [heq]
  apply Array.ext
  · rw [hb.1, put_len (by simp) h]
  · intro i h1 h2
    have h3 := hb.2 i
    have h4 := put_get (arr := al) (o := off) (vs := v.cells.toList) (n := v.cells.size) (by simp) h i
    rw [Array.getElem?_eq_getElem h1] at h3
    rw [Array.getElem?_eq_getElem h2] at h4
    simp only [Nat.add_zero, Array.length_toList] at h3
    rw [← h3] at h4
    exact (Option.some.inj h4).symm

theorem sput_fit : ∀ {cs ns cs' : List SV} {off : Nat}, sput cs off ns = some cs' → ns ≠ [] → off + ns.length ≤ cs.length
  | cs, [], cs', off, h, hn => absurd rfl hn
  | [], n :: ns, cs', off, h, _ => by simp [sput] at h
  | c :: cs, n :: ns, cs', 0, h, _ => by
    simp only [sput] at h
    split at h
    · rename_i r hr
      by_cases hns : ns = []
      · subst hns; simp
      · have := sput_fit hr hns
        simp at this ⊢; omega
    · cases h
  | c :: cs, n :: ns, cs', off + 1, h, hn => by
    simp only [sput] at h
    split at h
    · rename_i r hr
      have := sput_fit hr hn
      simp at this ⊢; omega
    · cases h

theorem fillV_r {Z : Nat → Prop} {objs : List Ob} {place : Nat → Option (Nat × Nat)} : ∀ {l : List (Nat × Nat × SV)} {cs cs' : List SV} {al : Array Value} {ps : List (Nat × Value)}, fillV cs l = some cs' →
    SVrs w Z m objs cs al.toList → ps.length = l.length → (∀ i (h1 : i < l.length) (h2 : i < ps.length), place (ps[i]).1 = some ((l[i]).1, (l[i]).2.1) ∧ (l[i]).2.1 ≠ 0 ∧ SVr w Z m objs (l[i]).2.2 (ps[i]).2) →
    ∃ al', Instr.fill place al ps = some al' ∧ SVrs w Z m objs cs' al'.toList
  | [], cs, cs', al, ps, h, h1, hl, _ => by
    cases ps with
    | nil => simp only [fillV, Option.some.injEq] at h; subst h; exact ⟨al, rfl, h1⟩
    | cons => simp at hl
  | (off, sz, v) :: l, cs, cs', al, ps, h, h1, hl, h2 => by
    cases ps with
    | nil => simp at hl
    | cons p ps =>
      obtain ⟨i, pv⟩ := p
      obtain ⟨hp, hsz0, hv⟩ := h2 0 (by simp) (by simp)
      simp only [List.getElem_cons_zero] at hp hsz0 hv
      simp only [fillV] at h
      split at h
      · rename_i hc
        split at h
        · rename_i cs1 hs1
          obtain ⟨hcv, hone⟩ := cellsV_r hc.2 hv
          have hcs : pv.cells.size = sz := by rw [← Array.length_toList, hcv.length]; exact hc.1
          obtain ⟨h3, h4⟩ := sput_r hs1 h1 hcv
          have hfit := sput_fit hs1 (by intro hn; rw [hn] at hc; simp at hc; omega)
          have hal : al.size = cs.length := by rw [← Array.length_toList]; exact h1.length
          rw [hc.1, ← hal, ← hcs] at hfit
          obtain ⟨al', h5, h6⟩ := fillV_r (place := place) (l := l) (ps := ps) (al := (al.toList.take off ++ pv.cells.toList ++ al.toList.drop (off + pv.cells.size)).toArray) h (by simpa using h4) (by simpa using hl)
            (fun i h7 h8 => by have := h2 (i + 1) (by simpa using h7) (by simpa using h8); simpa using this)
          refine ⟨al', ?_, h6⟩
          simp only [Instr.fill, hp]
          rw [if_neg (by simp [hcs]; omega), fold_put hfit]
          exact h5
        · cases h
      · cases h

include hti in
theorem opBuild_good (h : SR w0 O0 Z0 m0 os0 m fpl Γ a w) (hd : ∀ k, d = some k → k < Γ.n) {T : TypeId} {ps : List (Nat × Operand)} (hT : (ti T).ok = true)
    (hs : opBuild (sC P ti own) Γ d T (ps.map fun p => (p.1, rd Γ p.2)) K) : Good w0 O0 Z0 m0 os0 K d a ((Instr.build T (ps.map fun p => (p.1, a.eval p.2)).toArray).run P w) := by
  obtain ⟨i, z, hi, hz, hzv, _⟩ := (hti T hT).zero
  have hz0 : SVrs w (Zn w0 O0 Z0 w fpl) m Γ.objs (svOfs (ti T).zv) z.cells.toList := by rw [hzv]; exact svOfs_r _
  unfold opBuild at hs
  split at hs
  · rename_i n e sz harr
    obtain ⟨hu, he, hsz⟩ := (hti T hT).arr n e sz harr
    obtain ⟨ie, hie, hisz⟩ := Option.map_eq_some_iff.1 (hti e he).sz
    split at hs
    · rename_i cs hcs
      · obtain ⟨hsz0, hs⟩ := hs
        obtain ⟨al', h5, h6⟩ := fillV_r (ps := ps.map fun p => (p.1, a.eval p.2)) (place := fun i => some (i * ie.size, ie.size)) hcs hz0 (by simp) (fun i h1 h2 => by
          simp only [List.getElem_map]
          refine ⟨by rw [hisz, hsz], hsz0, h.eval _⟩)
        refine good_put h hd hs (run_build w T _ al' ?_) ⟨al'.toList, by simp, h6⟩
        simp only [Program.built, hi, hu, hz, hie]
        exact h5
    · exact hs.elim
  · split at hs
    · rename_i cs hcs
      obtain ⟨hne, hall, hK⟩ := hs
      obtain ⟨fs, hu⟩ : ∃ fs, P.underlying T = some (.struct fs) := by
        have hne' : (ti T).flds ≠ [] := hne
        cases hf : (ti T).flds with
        | nil => exact absurd hf hne'
        | cons p r =>
          obtain ⟨fs, _, hu, _⟩ := (hti T hT).flds 0 p.1 p.2 (by rw [hf]; rfl)
          exact ⟨fs, hu⟩
      have hpl := (hti T hT).st fs hu
      obtain ⟨al', h5, h6⟩ := fillV_r (ps := ps.map fun p => (p.1, a.eval p.2)) (place := fun i => ((ti T).flds.map fun p => (p.1, (ti p.2).sz)).toArray[i]?) hcs hz0 (by simp) (fun i h1 h2 => by
          simp only [List.getElem_map]
          have h1' : i < ps.length := by simpa using h1
          rw [List.all_eq_true] at hall
          have hlt := hall (ps[i].1, rd Γ ps[i].2) (List.mem_map.2 ⟨ps[i], List.getElem_mem h1', rfl⟩)
          have hlt' : ps[i].1 < (ti T).flds.length := by simpa using hlt
          have hgd : (ti T).flds.getD ps[i].1 (0, 0) = (ti T).flds[ps[i].1] := by rw [List.getD_eq_getElem?_getD, List.getElem?_eq_getElem hlt']; rfl
          refine ⟨?_, ?_, h.eval _⟩
          · show _ = some (((ti T).flds.getD ps[i].1 (0, 0)).1, (ti ((ti T).flds.getD ps[i].1 (0, 0)).2).sz)
            rw [hgd]
            simp [hlt']
          · show (ti ((ti T).flds.getD ps[i].1 (0, 0)).2).sz ≠ 0
            rw [hgd]
            obtain ⟨_, _, _, _, _, _, _, h7⟩ := (hti T hT).flds ps[i].1 _ _ (List.getElem?_eq_getElem hlt')
            exact h7)
      refine good_put h hd hK (run_build w T _ al' ?_) ⟨al'.toList, by simp, h6⟩
      simp only [Program.built, hi, hu, hz, hpl]
      exact h5
    · exact hs.elim

end
end Go.Dm

/- Length, greatest, least; each operation's law. -/
namespace Go.Dm
open Go

section
variable {P : Program} {ti : TypeId → TI} {own : Bool} (hti : ∀ t, (ti t).ok = true → TIok P ti t)
variable {w0 : World} {O0 : List Nat} {Z0 : Nat → Prop} {m0 : List OR} {os0 : List Ob} {m : List OR} {fpl : List (List Nat)} {Γ Γ' : St} {a : Act} {w : World} {K : St → Prop} {d : Option Nat}

theorem slen_r {x : SV} {vx : Value} {n : Int} (hn : slen (sC P ti own) Γ x = some n) (hx : SVr w (Zn w0 O0 Z0 w fpl) m Γ.objs x vx) (hok : ∀ id off len, x = .view id off len → viewOk Γ id) (hok2 : ∀ id j off len, x = .row id j off len → rowOf Γ id fun _ => True) :
    (∃ s, x = .str s ∧ vx = .string ⟨s.toArray⟩ ∧ n = s.length) ∨ ((∀ s, x ≠ .str s) ∧ ∃ A l c, vx = .slice A l c ∧ n = l) := by
  unfold slen at hn
  split at hn
  · cases hn
    right
    simp only [SVr] at hx
    obtain ⟨_, A, c, hv, _⟩ := hx
    cases hv
    exact ⟨by simp, A, _, c, rfl, rfl⟩
  · rename_i id off len
    cases hn
    right
    simp only [SVr] at hx
    obtain ⟨_, _, hx⟩ := hx
    have := hok _ _ _ rfl
    unfold viewOk at this
    split at hx
    · obtain ⟨c, b, o, rfl, _⟩ := hx
      exact ⟨by simp, _, _, _, rfl, rfl⟩
    · rename_i hne
      split at this
      · rename_i t e dd xs hole ho
        exact absurd ho (hne t e dd xs hole)
      · exact this.elim
  · rename_i id j off len
    cases hn
    right
    simp only [SVr] at hx
    obtain ⟨_, _, hx⟩ := hx
    have := hok2 _ _ _ _ rfl
    unfold rowOf at this
    split at hx
    · obtain ⟨_, A, n', c, _, hle, h1⟩ := hx
      rcases h1 with ⟨rfl, rfl, rfl⟩ | ⟨br, or', cap, b', o', _, rfl, _⟩
      · refine ⟨by simp, _, _, _, rfl, ?_⟩
        have : len = 0 := by omega
        subst this; rfl
      · exact ⟨by simp, _, _, _, rfl, rfl⟩
    · rename_i hne
      split at this
      · rename_i e t e' dd xs hole ho
        exact absurd ho (hne e t e' dd xs hole)
      · exact this.elim
  · cases hn
    right
    simp only [SVr] at hx
    subst hx
    exact ⟨by simp, _, _, _, rfl, rfl⟩
  · cases hn
    left
    simp only [SVr] at hx
    exact ⟨_, rfl, hx, rfl⟩
  · cases hn

theorem maxs_r {Z : Nat → Prop} {objs : List Ob} (mx : Bool) : ∀ {r : List SV} {vr : List Value} {x n : Int}, maxs (stdW P) mx x r = some n → SVrs w Z m objs r vr →
    (vr.foldlM (fun a b => if mx then Builtin.max2 a b else Builtin.min2 a b) (Value.int .i64 x)).run P w = .ok (.int .i64 n) w
  | [], vr, x, n, h, hr => by
    simp only [SVrs] at hr
    subst hr
    simp only [maxs, Option.some.injEq] at h
    subst h
    simp
  | v :: r, vr, x, n, h, hr => by
    simp only [SVrs] at hr
    obtain ⟨v', vr', rfl, h1, h2⟩ := hr
    cases v <;> try (simp [maxs] at h; done)
    rename_i k b
    cases k <;> try (simp [maxs] at h; done)
    simp only [SVr] at h1
    subst h1
    simp only [maxs] at h
    have := maxs_r (mx := mx) h h2
    simp only [List.foldlM_cons, Sem.run_bind]
    cases mx with
    | true => simp only [if_true, Builtin.max2, Sem.run_pure, Result.andThen_ok]; exact this
    | false => simp only [Bool.false_eq_true, if_false, Builtin.min2, Sem.run_pure, Result.andThen_ok]; exact this


include hti in
theorem opLen_good (h : SR w0 O0 Z0 m0 os0 m fpl Γ a w) (hd : ∀ k, d = some k → k < Γ.n) {T ty : TypeId} {ats : Array TypeId} {x : SV} {vx : Value} (hT : (ti T).ok = true) (hat : ats[0]? = some T)
    (hs : opLen (sC P ti own) Γ d T x K)
    (hx : SVr w (Zn w0 O0 Z0 w fpl) m Γ.objs x vx) : Good w0 O0 Z0 m0 os0 K d a ((Builtin.len_ ats ty #[vx]).run P w) := by
  unfold opLen at hs
  split at hs
  · rename_i n e s harr
    obtain ⟨hu, _⟩ := (hti T hT).arr n e s harr
    exact good_put h hd hs (by simp [Builtin.len_, hat, run_underlying hu, goInt]) svr_int
  · split at hs
    · rename_i n hn
      obtain ⟨hok, hK⟩ := hs
      rcases slen_r hn hx (fun id off len he => by subst he; exact hok.1) (fun id j off len he => by subst he; exact hok.1) with ⟨s, rfl, rfl, rfl⟩ | ⟨hns, A, l, c, rfl, rfl⟩
      · have hu := (hti T hT).str hok
        exact good_put h hd hK (by simp [Builtin.len_, hat, run_underlying hu, goInt, ba_size]) svr_int
      · have hsl : (ti T).sl ≠ none := by
          unfold lenOk at hok
          split at hok
          · exact absurd rfl (hns _)
          · exact hok.2
          · exact hok.2
          · exact hok
        cases hq : (ti T).sl with
        | none => exact absurd hq hsl
        | some e =>
          obtain ⟨hu, _⟩ := (hti T hT).sl e hq
          exact good_put h hd hK (by simp [Builtin.len_, hat, run_underlying hu, goInt]) svr_int
    · exact hs.elim

theorem opMax_good (h : SR w0 O0 Z0 m0 os0 m fpl Γ a w) (hd : ∀ k, d = some k → k < Γ.n) {ty : TypeId} {ats : Array TypeId} {x : Int} {r : List SV} {vs : List Value} (mx : Bool)
    (hs : opMax (sC P ti own) Γ d mx x r K)
    (hx : SVrs w (Zn w0 O0 Z0 w fpl) m Γ.objs (.int .i64 x :: r) vs) : Good w0 O0 Z0 m0 os0 K d a ((if mx then Builtin.max_ ats ty vs.toArray else Builtin.min_ ats ty vs.toArray).run P w) := by
  unfold opMax at hs
  split at hs
  · rename_i n hn
    simp only [SVrs] at hx
    obtain ⟨v, vr, rfl, h1, h2⟩ := hx
    simp only [SVr] at h1
    subst h1
    have := maxs_r (w := w) (m := m) mx hn h2
    refine good_put h hd hs ?_ svr_int
    cases mx with
    | true => simpa [Builtin.max_] using this
    | false => simpa [Builtin.min_] using this
  · exact hs.elim

end
end Go.Dm

/- Objects by other names. -/
namespace Go.Dm
open Go

/-- One shape: what a value may ask of an object. -/
def Sh : Ob → Ob → Prop
  | .gone, o => o = .gone
  | .box _ cs, o => ∃ e' cs', o = .box e' cs'
  | .lst t e d xs hole, o => o = .lst t e d xs hole
  | .arr t e xs, o => o = .arr t e xs

theorem Sh.refl : ∀ o, Sh o o
  | .gone => rfl
  | .box _ _ => ⟨_, _, rfl⟩
  | .lst _ _ _ _ _ => rfl
  | .arr _ _ _ => rfl
theorem Sh.renO (σ : Nat → Option Nat) : ∀ o, Sh o (renO σ o)
  | .gone => rfl
  | .box _ _ => ⟨_, _, rfl⟩
  | .lst _ _ _ _ _ => rfl
  | .arr _ _ _ => rfl

theorem Rep.full_any {w : World} {Z Z' : Nat → Prop} : ∀ {t : Ty} {d : Nat} {x : t.T} {cs : List Value} {fp : List Nat}, t.fullAt d = true → Rep w Z t d x cs fp → Rep w Z' t d x cs fp
  | .int _, _, _, _, _, _, h => h
  | .bool, _, _, _, _, _, h => h
  | .str, _, _, _, _, _, h => h
  | .unit, _, _, _, _, _, h => h
  | .pair a b, d, _, _, _, hf, h => h.flat_any (by cases d <;> exact hf)
  | .sl _ t, 0, _, _, _, hf, _ => by simp [Ty.fullAt] at hf
  | .sl _ t, d + 1, xs, _, _, hf, h => by
    rcases h with h | ⟨b, o, c, fps, rfl, hc, rfl, hl, hB, h⟩
    · exact .inl h
    · refine .inr ⟨b, o, c, fps, rfl, hc, rfl, hl, hB, fun i hi => ?_⟩
      obtain ⟨ces, h1, h2⟩ := h i hi
      exact ⟨ces, h1, h2.full_any (by simpa [Ty.fullAt] using hf)⟩

section
variable {w : World} {Z Z' : Nat → Prop} {m m2 : List OR} {objs objs2 : List Ob} {σ : Nat → Option Nat}

/-- A renaming that is right. -/
def RN (m m2 : List OR) (objs objs2 : List Ob) (σ : Nat → Option Nat) : Prop :=
  ∀ i k, σ i = some k → i < objs.length → k < objs2.length ∧ mg m2 k = mg m i ∧ Sh (ogt objs i) (ogt objs2 k)

mutual
theorem SVr.ren (hσ : RN m m2 objs objs2 σ) : ∀ (sv : SV) (v : Value), ((∀ b, Z b → Z' b) ∨ full sv = true) → SVr w Z m objs sv v → SVr w Z' m2 objs2 (ren σ sv) v
  | .dead, _, _, _ => trivial
  | .int _ _, _, _, h => h
  | .bool _, _, _, h => h
  | .str _, _, _, h => h
  | .nilsl, _, _, h => h
  | .fs t e xs, v, hz, h => by
    rcases hz with hz | hz
    · exact Rep.mono (w := w) (w' := w) (t := .sl e t) hz (fun _ _ => rfl) h (fun _ _ => rfl)
    · simp [full] at hz
  | .faddr t x sub, v, hz, h => by
    rcases hz with hz | hz
    · obtain ⟨b, o, ces, rfl, h1, h2, h3⟩ := h
      exact ⟨b, o, ces, rfl, hz b h1, h2, h3.mono hz (fun _ _ => rfl) (fun _ _ => rfl)⟩
    · simp [full] at hz
  | .nilptr, _, _, h => h
  | .fn _, _, _, h => h
  | .view id off len, v, _, h => by
    simp only [Dm.ren]
    split
    · rename_i k hk
      simp only [SVr] at h ⊢
      obtain ⟨h1, h2, h3⟩ := h
      obtain ⟨h4, h5, h6⟩ := hσ id k hk h1
      refine ⟨h4, h2, ?_⟩
      rw [h5]
      cases ho : ogt objs id <;> rw [ho] at h3 h6 <;> simp only [Sh] at h6
      · rw [h6]; trivial
      · obtain ⟨_, _, h6⟩ := h6; rw [h6]; trivial
      · rw [h6]; exact h3
      · rw [h6]; trivial
    · trivial
  | .row id j off len, v, _, h => by
    simp only [Dm.ren]
    split
    · rename_i k hk
      simp only [SVr] at h ⊢
      obtain ⟨h1, h2, h3⟩ := h
      obtain ⟨h4, h5, h6⟩ := hσ id k hk h1
      refine ⟨h4, h2, ?_⟩
      rw [h5]
      cases ho : ogt objs id <;> rw [ho] at h3 h6 <;> simp only [Sh] at h6
      · rw [h6]; trivial
      · obtain ⟨_, _, h6⟩ := h6; rw [h6]; trivial
      · rw [h6]; exact h3
      · rw [h6]; trivial
    · trivial
  | .ptr id off, v, _, h => by
    simp only [Dm.ren]
    split
    · rename_i k hk
      simp only [SVr] at h ⊢
      obtain ⟨h1, h2, h3⟩ := h
      obtain ⟨h4, h5, h6⟩ := hσ id k hk h1
      refine ⟨h4, h2, ?_⟩
      rw [h5]
      cases ho : ogt objs id <;> rw [ho] at h3 h6 <;> simp only [Sh] at h6
      · rw [h6]; trivial
      · obtain ⟨_, _, h6⟩ := h6; rw [h6]; exact h3
      · rw [h6]; trivial
      · rw [h6]; exact h3
    · trivial
  | .aaddr id off, v, _, h => by
    simp only [Dm.ren]
    split
    · rename_i k hk
      simp only [SVr] at h ⊢
      obtain ⟨h1, h2, h3⟩ := h
      obtain ⟨h4, h5, h6⟩ := hσ id k hk h1
      refine ⟨h4, h2, ?_⟩
      rw [h5]
      cases ho : ogt objs id <;> rw [ho] at h3 h6 <;> simp only [Sh] at h6
      · rw [h6]; trivial
      · obtain ⟨_, _, h6⟩ := h6; rw [h6]; trivial
      · rw [h6]; trivial
      · rw [h6]; exact h3
    · trivial
  | .eaddr id j sub, v, _, h => by
    simp only [Dm.ren]
    split
    · rename_i k hk
      simp only [SVr] at h ⊢
      obtain ⟨h1, h2, h3⟩ := h
      obtain ⟨h4, h5, h6⟩ := hσ id k hk h1
      refine ⟨h4, h2, ?_⟩
      rw [h5]
      cases ho : ogt objs id <;> rw [ho] at h3 h6 <;> simp only [Sh] at h6
      · rw [h6]; trivial
      · obtain ⟨_, _, h6⟩ := h6; rw [h6]; trivial
      · rw [h6]; exact h3
      · rw [h6]; trivial
    · trivial
  | .raddr id j i, v, _, h => by
    simp only [Dm.ren]
    split
    · rename_i k hk
      simp only [SVr] at h ⊢
      obtain ⟨h1, h2, h3⟩ := h
      obtain ⟨h4, h5, h6⟩ := hσ id k hk h1
      refine ⟨h4, h2, ?_⟩
      rw [h5]
      cases ho : ogt objs id <;> rw [ho] at h3 h6 <;> simp only [Sh] at h6
      · rw [h6]; trivial
      · obtain ⟨_, _, h6⟩ := h6; rw [h6]; trivial
      · rw [h6]; exact h3
      · rw [h6]; trivial
    · trivial
  | .clo f cs, v, hz, h => by
    simp only [Dm.ren, SVr] at h ⊢
    obtain ⟨vs, rfl, h⟩ := h
    exact ⟨vs, rfl, SVrs.ren hσ cs vs (by simpa [full] using hz) h⟩
  | .agg cs, v, hz, h => by
    simp only [Dm.ren, SVr] at h ⊢
    obtain ⟨vs, rfl, h⟩ := h
    exact ⟨vs, rfl, SVrs.ren hσ cs vs (by simpa [full] using hz) h⟩
  | .tup cs, v, hz, h => by
    simp only [Dm.ren, SVr] at h ⊢
    obtain ⟨vs, rfl, h⟩ := h
    exact ⟨vs, rfl, SVrs.ren hσ cs vs (by simpa [full] using hz) h⟩
theorem SVrs.ren (hσ : RN m m2 objs objs2 σ) : ∀ (svs : List SV) (vs : List Value), ((∀ b, Z b → Z' b) ∨ fulls svs = true) → SVrs w Z m objs svs vs → SVrs w Z' m2 objs2 (rens σ svs) vs
  | [], _, _, h => h
  | sv :: r, vs, hz, h => by
    simp only [rens, SVrs] at h ⊢
    obtain ⟨v, vs', rfl, h1, h2⟩ := h
    have hz' : ((∀ b, Z b → Z' b) ∨ full sv = true) ∧ ((∀ b, Z b → Z' b) ∨ fulls r = true) := by
      rcases hz with hz | hz
      · exact ⟨.inl hz, .inl hz⟩
      · simp only [fulls] at hz
        split at hz
        · rename_i h3; exact ⟨.inr h3, .inr hz⟩
        · cases hz
    exact ⟨v, _, rfl, SVr.ren hσ sv v hz'.1 h1, SVrs.ren hσ r vs' hz'.2 h2⟩
end

theorem rens_len : ∀ svs : List SV, (rens σ svs).length = svs.length
  | [] => rfl
  | _ :: r => by simp [rens, rens_len r]

/-- An object by another name. -/
theorem obR.ren (hσ : RN m m2 objs objs2 σ) {i k : Nat} {fp : List Nat} (hk : ogt objs2 k = renO σ (ogt objs i)) (hm : mg m2 k = mg m i) (hz : (∀ b, Z b → Z' b) ∨ fullO (ogt objs i) = true)
    (h : obR w Z m objs i fp) : obR w Z' m2 objs2 k fp := by
  unfold obR at h ⊢
  rw [hk, hm]
  cases ho : ogt objs i with
  | gone => trivial
  | box e cs =>
    rw [ho] at h hz
    obtain ⟨h1, arr, e', h2, h3⟩ := h
    exact ⟨h1, arr, e', h2, SVrs.ren hσ _ _ (by simpa [fullO] using hz) h3⟩
  | lst t e d xs hole =>
    rw [ho] at h hz
    obtain ⟨arr, e', fps, h1, h2, h3, h4, h5⟩ := h
    refine ⟨arr, e', fps, h1, h2, h3, h4, fun j hj => ?_⟩
    rcases h5 j hj with h6 | ⟨h6, ces, h7, h8⟩
    · exact .inl h6
    · refine .inr ⟨h6, ces, h7, ?_⟩
      rcases hz with hz | hz
      · exact h8.mono hz (fun _ _ => rfl) (fun _ _ => rfl)
      · exact h8.full_any hz
  | arr t e xs =>
    rw [ho] at h
    obtain ⟨h1, h2, h3, arr, e', h4, h5, h6⟩ := h
    refine ⟨h1, h2, h3, arr, e', h4, h5, fun j hj => ?_⟩
    obtain ⟨v, h7, h8⟩ := h6 j hj
    exact ⟨v, h7, h8.flat_any h3⟩

theorem ObLe.ren_l {τ : Nat → Option Nat} {a b : Ob} (h : ObLe (renO τ a) b) : ObLe a b := by
  cases a with
  | box e cs =>
    rcases h with h | ⟨cs', h1, h2⟩
    · exact .inl h
    · exact .inr ⟨cs', h1, by rw [h2, rens_len]⟩
  | gone => exact h
  | lst => exact h
  | arr => exact h
theorem ObLe.ren_r {τ : Nat → Option Nat} {a b : Ob} (h : ObLe a b) : ObLe a (renO τ b) := by
  cases a with
  | box e cs =>
    rcases h with rfl | ⟨cs', rfl, h2⟩
    · exact .inl rfl
    · exact .inr ⟨_, rfl, by rw [rens_len, h2]⟩
  | gone => rw [h.of_gone]; trivial
  | lst t e d xs hole =>
    rcases h with rfl | ⟨xs', hole', rfl, h2⟩
    · exact .inl rfl
    · exact .inr ⟨xs', hole', rfl, h2⟩
  | arr t e xs =>
    rcases h with rfl | ⟨xs', rfl, h2⟩
    · exact .inl rfl
    · exact .inr ⟨xs', rfl, h2⟩

end
end Go.Dm

/- Arguments; objects that are frozen. -/
namespace Go.Dm
open Go

/-- The words that arguments are told in. -/
def WOk (W : W) : Prop := (∀ (α : Type) (xs : List α) o n, W.ext xs o n = (xs.drop o).take n) ∧ (∀ (t : Ty) (xs : List t.T) j, W.get t xs j = xs.getD j t.dflt)

section
variable {P : Program} {W : W}
variable {w0 : World} {O0 : List Nat} {Z0 : Nat → Prop} {m0 : List OR} {os0 : List Ob} {m : List OR} {fpl : List (List Nat)} {Γ Γ' : St} {a : Act} {w : World}

/-- What a slice of the walk's own holds lies in its own blocks. -/
theorem seqP_r (hW : WOk W) (h : SR w0 O0 Z0 m0 os0 m fpl Γ a w) {Z2 : Nat → Prop} (hz : ∀ b, Zn w0 O0 Z0 w fpl b → Z2 b) {id : Nat} {x : SV} (hx : (∃ off len, x = .view id off len) ∨ ∃ j off len, x = .row id j off len)
    (hz2 : ∀ b ∈ fpl.getD id [], Z2 b) {v : Value} {t : Ty} {e : TypeId} {xs : List t.T} (hq : seqP W Γ x = some ⟨t, e, xs⟩) (hv : SVr w (Zn w0 O0 Z0 w fpl) m Γ.objs x v) :
    Rep w Z2 (.sl e t) 0 xs [v] [] := by
  rcases hx with ⟨off, len, rfl⟩ | ⟨j, off, len, rfl⟩
  · simp only [seqP] at hq
    simp only [SVr] at hv
    obtain ⟨hid, _, hv⟩ := hv
    split at hq
    · rename_i t' e' dd xs' ho
      rw [ho] at hv
      obtain ⟨cap, b', o', rfl, h0, h1, h2, arr, e1, h3, h4⟩ := hv
      have hb := h.ob.ob id hid
      unfold obR at hb
      rw [ho] at hb
      obtain ⟨arr', e2, fps, h5, h6, h7, h8, h9⟩ := hb
      simp only [Option.some.injEq] at hq
      rw [hW.1] at hq
      cases hq
      have hlen : ((xs'.drop off).take len).length = len := by simp; omega
      refine ⟨rfl, _, cap, by rw [hlen], by rw [hlen]; exact h1, ?_⟩
      by_cases hl0 : len = 0
      · left
        exact List.length_eq_zero_iff.1 (hlen.trans hl0)
      · right
        obtain ⟨rfl, rfl⟩ := h0 (by omega)
        refine ⟨_, _, rfl, hz2 _ (by rw [h8]; simp), fun i hi => ?_⟩
        rw [hlen] at hi
        rcases h9 (off + i) (by omega) with ⟨h10, _⟩ | ⟨_, ces, h11, h12⟩
        · cases h10
        · refine ⟨ces, by rw [Nat.add_mul, ← Nat.add_assoc] at h11; exact h11, ?_⟩
          have hx : ((xs'.drop off).take len)[i]'(by rw [hlen]; exact hi) = xs'[off + i]'(by omega) := by simp
          rw [hx]
          exact h12.freeze hz (fun b hb => hz2 b (by rw [h8]; exact List.mem_cons_of_mem _ (flat_mem hb)))
    · cases hq
  · simp only [seqP] at hq
    simp only [SVr] at hv
    obtain ⟨hid, _, hv⟩ := hv
    split at hq
    · rename_i e5 t5 e'' dd xs' ho
      rw [ho] at hv
      obtain ⟨hj, A, n, c, h1, h2, h3⟩ := hv
      have hb := h.ob.ob id hid
      unfold obR at hb
      rw [ho] at hb
      obtain ⟨arr', e2, fps, h5, h6, h7, h8, h9⟩ := hb
      simp only [Option.some.injEq] at hq
      rw [hW.1, hW.2, getD_lt hj] at hq
      cases hq
      rcases h9 j hj with ⟨h10, _⟩ | ⟨_, ces, h11, h12⟩
      · cases h10
      · have hsz : (Ty.sl e t).size = 1 := rfl
        have hcell : ∀ v, ces = [v] → v = .slice A n c := by
          intro v hv
          have := h11 0 v (by rw [hv]; rfl)
          rw [hsz, Nat.mul_one, Nat.add_zero, h1] at this
          exact (Option.some.inj this).symm
        rcases h12 with ⟨h13, h14, A', h15⟩ | ⟨b, o, c', fps', h15, h16, h17, h18, ⟨arr2, e3, h19, h20⟩, h21⟩
        · have := hcell _ h15
          cases this
          have hl0 : len = 0 := by omega
          have hemp : ((List.drop off xs'[j]).take len) = [] := by rw [hl0]; simp
          rcases h3 with ⟨_, _, rfl⟩ | ⟨br, or', cap, b', o', _, rfl, _, h4, _⟩
          · exact ⟨rfl, _, 0, by rw [hemp]; rfl, by rw [hemp]; exact Nat.le_refl _, .inl hemp⟩
          · exact ⟨rfl, _, cap, by rw [hemp, hl0]; rfl, by rw [hemp]; exact Nat.zero_le _, .inl hemp⟩
        · have := hcell _ h15
          cases this
          have hlen : ((List.drop off xs'[j]).take len).length = len := by simp; omega
          rcases h3 with ⟨h22, h23, rfl⟩ | ⟨br, or', cap, b', o', hA, rfl, h24, h25, h26⟩
          · have hl0 : len = 0 := by omega
            have hemp : ((List.drop off xs'[j]).take len) = [] := List.length_eq_zero_iff.1 (hlen.trans hl0)
            exact ⟨rfl, _, 0, by rw [hemp]; rfl, by rw [hemp]; exact Nat.le_refl _, .inl hemp⟩
          · refine ⟨rfl, _, cap, by rw [hlen], by rw [hlen]; exact h25, ?_⟩
            by_cases hl0 : len = 0
            · exact .inl (List.length_eq_zero_iff.1 (hlen.trans hl0))
            · right
              obtain ⟨rfl, rfl⟩ := h24 (by omega)
              cases hA
              have hfj : ∀ b ∈ fps.getD j [], b ∈ fpl.getD id [] := fun b hb => by rw [h8]; exact List.mem_cons_of_mem _ (flat_mem hb)
              refine ⟨_, _, rfl, hz2 _ (hfj _ (by rw [h17]; simp)), fun i hi => ?_⟩
              rw [hlen] at hi
              obtain ⟨ces', h27, h28⟩ := h21 (off + i) (by omega)
              refine ⟨ces', by rw [Nat.add_mul, ← Nat.add_assoc] at h27; exact h27, ?_⟩
              have hx : ((List.drop off xs'[j]).take len)[i]'(by rw [hlen]; exact hi) = xs'[j][off + i]'(by omega) := by simp
              rw [hx]
              exact h28.freeze hz (fun b hb => hz2 b (hfj b (by rw [h17]; exact List.mem_cons_of_mem _ (flat_mem hb))))
    · cases hq

mutual
theorem argP_r (hW : WOk W) (h : SR w0 O0 Z0 m0 os0 m fpl Γ a w) {Z2 : Nat → Prop} (hz : ∀ b, Zn w0 O0 Z0 w fpl b → Z2 b) {kp : Nat → Bool} (hz2 : ∀ i, kp i = false → i < Γ.objs.length → ∀ b ∈ fpl.getD i [], Z2 b) :
    ∀ (sv : SV) (v : Value), SVr w (Zn w0 O0 Z0 w fpl) m Γ.objs sv v → SVr w Z2 m Γ.objs (argP W Γ kp sv) v
  | .dead, _, _ => trivial
  | .int _ _, _, hv => hv
  | .bool _, _, hv => hv
  | .str _, _, hv => hv
  | .nilsl, _, hv => hv
  | .fs t e xs, v, hv => Rep.mono (w := w) (w' := w) (t := .sl e t) hz (fun _ _ => rfl) hv (fun _ _ => rfl)
  | .faddr t x sub, v, hv => by
    obtain ⟨b, o, ces, rfl, h1, h2, h3⟩ := hv
    exact ⟨b, o, ces, rfl, hz b h1, h2, h3.mono hz (fun _ _ => rfl) (fun _ _ => rfl)⟩
  | .nilptr, _, hv => hv
  | .fn _, _, hv => hv
  | .ptr id off, v, hv => hv
  | .aaddr id off, v, hv => hv
  | .eaddr id j sub, v, hv => hv
  | .raddr id j i, v, hv => hv
  | .view id off len, v, hv => by
    have hv' := hv
    simp only [argP]
    split
    · exact hv
    · rename_i hk
      split
      · rename_i t e xs hq
        simp only [SVr] at hv'
        exact seqP_r hW h hz (.inl ⟨_, _, rfl⟩) (hz2 id hk hv'.1) hq hv
      · trivial
  | .row id j off len, v, hv => by
    have hv' := hv
    simp only [argP]
    split
    · exact hv
    · rename_i hk
      split
      · rename_i t e xs hq
        simp only [SVr] at hv'
        exact seqP_r hW h hz (.inr ⟨_, _, _, rfl⟩) (hz2 id hk hv'.1) hq hv
      · trivial
  | .clo f cs, v, hv => by
    simp only [argP, SVr] at hv ⊢
    obtain ⟨vs, rfl, hv⟩ := hv
    exact ⟨vs, rfl, argPs_r hW h hz hz2 cs vs hv⟩
  | .agg cs, v, hv => by
    simp only [argP, SVr] at hv ⊢
    obtain ⟨vs, rfl, hv⟩ := hv
    exact ⟨vs, rfl, argPs_r hW h hz hz2 cs vs hv⟩
  | .tup cs, v, hv => by
    simp only [argP, SVr] at hv ⊢
    obtain ⟨vs, rfl, hv⟩ := hv
    exact ⟨vs, rfl, argPs_r hW h hz hz2 cs vs hv⟩
theorem argPs_r (hW : WOk W) (h : SR w0 O0 Z0 m0 os0 m fpl Γ a w) {Z2 : Nat → Prop} (hz : ∀ b, Zn w0 O0 Z0 w fpl b → Z2 b) {kp : Nat → Bool} (hz2 : ∀ i, kp i = false → i < Γ.objs.length → ∀ b ∈ fpl.getD i [], Z2 b) :
    ∀ (svs : List SV) (vs : List Value), SVrs w (Zn w0 O0 Z0 w fpl) m Γ.objs svs vs → SVrs w Z2 m Γ.objs (argPs W Γ kp svs) vs
  | [], _, hv => hv
  | sv :: r, vs, hv => by
    simp only [argPs, SVrs] at hv ⊢
    obtain ⟨v, vs', rfl, h1, h2⟩ := hv
    exact ⟨v, _, rfl, argP_r hW h hz hz2 sv v h1, argPs_r hW h hz hz2 r vs' h2⟩
end


theorem fzVs_len (kp : Nat → Bool) : ∀ cs : List SV, (fzVs W Γ kp cs).length = cs.length
  | [] => rfl
  | _ :: r => by simp [fzVs, fzVs_len kp r]

theorem fzO_len (kp : Nat → Bool) : ∀ (os : List Ob) (k : Nat), (fzO W Γ kp k os).length = os.length
  | [], _ => rfl
  | _ :: r, k => by simp [fzO, fzO_len kp r]

def fzOb (W : Dm.W) (Γ : St) (kp : Nat → Bool) (i : Nat) (o : Ob) : Ob := match kp i with
  | true => (match o with | .box e cs => .box e (fzVs W Γ kp cs) | o => o)
  | false => .gone

theorem ogt_fzO (kp : Nat → Bool) : ∀ (os : List Ob) (k i : Nat), ogt (fzO W Γ kp k os) i = if i < os.length then fzOb W Γ kp (k + i) (ogt os i) else .gone
  | [], k, i => by simp [fzO, ogt]
  | o :: r, k, 0 => by
    simp [fzO, ogt, fzOb]
    cases kp k <;> cases o <;> rfl
  | o :: r, k, i + 1 => by
    simp only [fzO, ogt, ogt_fzO kp r, List.length_cons, Nat.add_lt_add_iff_right]
    rw [show k + 1 + i = k + (i + 1) by omega]

theorem fzE_mem {kp : Nat → Bool} {s : Nat} {sv : SV} : ∀ {env : List (Nat × SV)}, (s, sv) ∈ fzE W Γ kp env → ∃ sv0, (s, sv0) ∈ env ∧ sv = fzV W Γ kp sv0
  | [], h => by simp [fzE] at h
  | (k, v) :: r, h => by
    simp only [fzE, List.mem_cons] at h
    rcases h with h | h
    · cases h; exact ⟨v, by simp, rfl⟩
    · obtain ⟨sv0, h1, h2⟩ := fzE_mem h
      exact ⟨sv0, by simp [h1], h2⟩

theorem SR.frz (hW : WOk W) (h : SR w0 O0 Z0 m0 os0 m fpl Γ a w) (ids : List Nat) : ∃ fpl', SR w0 O0 Z0 m0 os0 m fpl' (Γ.frz W ids) a w ∧
    ∀ (args : List SV) (vs : List Value), SVrs w (Zn w0 O0 Z0 w fpl) m Γ.objs args vs → SVrs w (Zn w0 O0 Z0 w fpl') m (Γ.frz W ids).objs (frzArgs Γ W ids args) vs := by
  cases ids with
  | nil => exact ⟨fpl, h, fun _ _ h => h⟩
  | cons i0 r0 =>
    have hfrz : Γ.frz W (i0 :: r0) = ⟨Γ.n, Γ.fix, Γ.wr, fzE W Γ (fun i => !memN (i0 :: r0) i) Γ.env, fzO W Γ (fun i => !memN (i0 :: r0) i) 0 Γ.objs⟩ := rfl
    have hargs : ∀ args, frzArgs Γ W (i0 :: r0) args = fzVs W Γ (fun i => !memN (i0 :: r0) i) args := fun _ => rfl
    rw [hfrz]
    simp only [hargs]
    generalize (fun i => !memN (i0 :: r0) i) = kp
    have hfd : ∀ i, i < Γ.objs.length → ((List.range Γ.objs.length).map fun i => if kp i then fpl.getD i [] else []).getD i [] = if kp i then fpl.getD i [] else [] := by
      intro i hi
      simp [List.getD_eq_getElem?_getD, hi]
    have hmem : ∀ b, b ∈ ((List.range Γ.objs.length).map fun i => if kp i then fpl.getD i [] else []).flatten → ∃ i, i < Γ.objs.length ∧ kp i = true ∧ b ∈ fpl.getD i [] := by
      intro b hb
      obtain ⟨l, hl, hb⟩ := List.mem_flatten.1 hb
      obtain ⟨i, hi, rfl⟩ := List.mem_map.1 hl
      split at hb
      · rename_i hk; exact ⟨i, List.mem_range.1 hi, hk, hb⟩
      · simp at hb
    have hsub : ∀ b, b ∈ ((List.range Γ.objs.length).map fun i => if kp i then fpl.getD i [] else []).flatten → b ∈ fpl.flatten := by
      intro b hb
      obtain ⟨i, _, _, hb⟩ := hmem b hb
      exact flat_mem hb
    have hnd : ((List.range Γ.objs.length).map fun i => if kp i then fpl.getD i [] else []).flatten.Nodup := by
      refine List.pairwise_flatten.2 ⟨fun l hl => ?_, ?_⟩
      · obtain ⟨i, _, rfl⟩ := List.mem_map.1 hl
        split
        · exact getD_nodup h.ob.nodup i
        · exact List.Pairwise.nil
      · refine List.pairwise_map.2 (List.Pairwise.imp_of_mem (fun {i j} _ _ hij => ?_) (List.nodup_range (n := Γ.objs.length)))
        intro b h1 b' h2 hbb
        subst hbb
        split at h1
        · split at h2
          · exact hij (flatten_pair h.ob.nodup h1 h2)
          · simp at h2
        · simp at h1
    generalize hF : ((List.range Γ.objs.length).map fun i => if kp i then fpl.getD i [] else []) = F at hfd hmem hsub hnd
    have hFl : F.length = Γ.objs.length := by rw [← hF]; simp
    have hz : ∀ b, Zn w0 O0 Z0 w fpl b → Zn w0 O0 Z0 w F b := fun b hb => ⟨hb.1, hb.2.1, fun hm => hb.2.2 (hsub b hm)⟩
    have hz2 : ∀ i, kp i = false → i < Γ.objs.length → ∀ b ∈ fpl.getD i [], Zn w0 O0 Z0 w F b := by
      intro i hk hi b hb
      obtain ⟨h1, h2⟩ := h.ob.own b (flat_mem hb)
      refine ⟨by rcases h2 with h2 | h2; exact .inr (.inl h2); exact .inr (.inr h2), h1, fun hm => ?_⟩
      obtain ⟨j, _, hkj, hbj⟩ := hmem b hm
      have := flatten_pair h.ob.nodup hb hbj
      subst this
      rw [hk] at hkj; cases hkj
    have hRN : RN m m Γ.objs (fzO W Γ kp 0 Γ.objs) (idOn kp) := by
      intro i k hk hi
      unfold idOn at hk
      split at hk
      · rename_i hki
        cases hk
        refine ⟨by rw [fzO_len]; exact hi, rfl, ?_⟩
        rw [ogt_fzO, if_pos hi, Nat.zero_add]
        unfold fzOb
        rw [hki]
        cases ogt Γ.objs i with
        | box e cs => exact ⟨_, _, rfl⟩
        | gone => rfl
        | lst => rfl
        | arr => rfl
      · cases hk
    have hV : ∀ sv v, SVr w (Zn w0 O0 Z0 w fpl) m Γ.objs sv v → SVr w (Zn w0 O0 Z0 w F) m (fzO W Γ kp 0 Γ.objs) (fzV W Γ kp sv) v := fun sv v hv =>
      SVr.ren hRN _ v (.inl fun _ h => h) (argP_r hW h hz hz2 sv v hv)
    have hVs : ∀ (svs : List SV) (vs : List Value), SVrs w (Zn w0 O0 Z0 w fpl) m Γ.objs svs vs → SVrs w (Zn w0 O0 Z0 w F) m (fzO W Γ kp 0 Γ.objs) (fzVs W Γ kp svs) vs := by
      intro svs
      induction svs with
      | nil => intro vs hv; exact hv
      | cons sv r ih =>
        intro vs hv
        simp only [SVrs, fzVs] at hv ⊢
        obtain ⟨v, vs', rfl, h1, h2⟩ := hv
        exact ⟨v, vs', rfl, hV sv v h1, ih vs' h2⟩
    refine ⟨F, ⟨⟨by show _ = (fzO W Γ kp 0 Γ.objs).length; rw [fzO_len]; exact h.ob.ml, by show (fzO W Γ kp 0 Γ.objs).length ≤ _; rw [fzO_len, hFl]; exact Nat.le_refl _, fun i hi => ?_, hnd,
      fun b hb => h.ob.own b (hsub b hb), h.ob.keep⟩, h.m0, h.o0, by show _ ≤ (fzO W Γ kp 0 Γ.objs).length; rw [fzO_len]; exact h.fx, fun i hi => ?_, h.tm, h.df, fun s sv hs => ?_⟩, hVs⟩
    · have hi' : i < Γ.objs.length := by
        have : i < (fzO W Γ kp 0 Γ.objs).length := hi
        rwa [fzO_len] at this
      have hb := h.ob.ob i hi'
      rw [hfd i hi']
      show obR w _ m (fzO W Γ kp 0 Γ.objs) i _
      unfold obR at hb ⊢
      rw [ogt_fzO, if_pos hi', Nat.zero_add]
      unfold fzOb
      cases hk : kp i with
      | false => trivial
      | true =>
        simp only [if_true]
        cases ho : ogt Γ.objs i with
        | gone => trivial
        | box e cs =>
          rw [ho] at hb
          obtain ⟨h1, arr, e', h2, h3⟩ := hb
          exact ⟨h1, arr, e', h2, hVs _ _ h3⟩
        | lst t e d xs hole =>
          rw [ho] at hb
          obtain ⟨arr, e', fps, h1, h2, h3, h4, h5⟩ := hb
          refine ⟨arr, e', fps, h1, h2, h3, h4, fun j hj => ?_⟩
          rcases h5 j hj with h6 | ⟨h6, ces, h7, h8⟩
          · exact .inl h6
          · exact .inr ⟨h6, ces, h7, h8.mono hz (fun _ _ => rfl) (fun _ _ => rfl)⟩
        | arr t e xs =>
          rw [ho] at hb
          obtain ⟨h1, h2, h3, arr, e', h4, h5, h6⟩ := hb
          refine ⟨h1, h2, h3, arr, e', h4, h5, fun j hj => ?_⟩
          obtain ⟨v, h7, h8⟩ := h6 j hj
          exact ⟨v, h7, h8.flat_any h3⟩
    · refine (h.le i hi).trans ?_
      show ObLe _ (ogt (fzO W Γ kp 0 Γ.objs) i)
      rw [ogt_fzO, if_pos (Nat.lt_of_lt_of_le hi h.fx), Nat.zero_add]
      unfold fzOb
      cases kp i with
      | false => exact ObLe.gone _
      | true =>
        cases ogt Γ.objs i with
        | box e cs => exact .inr ⟨_, rfl, fzVs_len _ _⟩
        | gone => exact ObLe.refl _
        | lst => exact ObLe.refl _
        | arr => exact ObLe.refl _
    · obtain ⟨sv0, h1, rfl⟩ := fzE_mem hs
      exact hV sv0 _ (h.env s sv0 h1)

end
end Go.Dm

/- A call. -/
namespace Go.Dm
open Go

theorem idx_some : ∀ {l : List Nat} {k0 q k : Nat}, idx l k0 q = some k → ∃ j, k = k0 + j ∧ l[j]? = some q
  | [], _, _, _, h => by simp [idx] at h
  | i :: r, k0, q, k, h => by
    simp only [idx] at h
    split at h
    · rename_i hq; cases h; exact ⟨0, rfl, by simp [hq]⟩
    · obtain ⟨j, h1, h2⟩ := idx_some h
      exact ⟨j + 1, by omega, by simpa using h2⟩

theorem idx_none : ∀ {l : List Nat} {k0 q : Nat}, idx l k0 q = none → q ∉ l
  | [], _, _, _ => by simp
  | i :: r, k0, q, h => by
    simp only [idx] at h
    split at h
    · cases h
    · rename_i hq
      have := idx_none h
      simp only [List.mem_cons, not_or]
      exact ⟨fun e => hq e.symm, this⟩

theorem idx_at : ∀ {l : List Nat} {k0 q j : Nat}, l.Nodup → l[j]? = some q → idx l k0 q = some (k0 + j)
  | [], _, _, _, _, h => by simp at h
  | i :: r, k0, q, 0, _, h => by simp at h; simp [idx, h]
  | i :: r, k0, q, j + 1, hn, h => by
    have h' : r[j]? = some q := by simpa using h
    simp only [idx]
    rw [if_neg]
    · rw [idx_at (List.nodup_cons.1 hn).2 h']; congr 1; omega
    · intro he
      subst he
      exact (List.nodup_cons.1 hn).1 (List.mem_of_getElem? h')

theorem ngt_eq : ∀ (l : List Nat) (k : Nat), ngt l k = l[k]?
  | [], _ => by simp [ngt]
  | _ :: _, 0 => by simp [ngt]
  | _ :: r, k + 1 => by simp [ngt, ngt_eq r k]

theorem memN_iff : ∀ {l : List Nat} {q : Nat}, memN l q = true ↔ q ∈ l
  | [], q => by simp [memN]
  | i :: r, q => by
    simp only [memN]
    split
    · rename_i h; simp [h]
    · rename_i h
      rw [memN_iff, List.mem_cons]
      constructor
      · exact .inr
      · rintro (h1 | h1)
        · exact absurd h1.symm h
        · exact h1

theorem pickO_len (os : List Ob) (σ : Nat → Option Nat) : ∀ l : List Nat, (pickO os σ l).length = l.length
  | [] => rfl
  | _ :: r => by simp [pickO, pickO_len os σ r]

theorem ogt_pickO (os : List Ob) (σ : Nat → Option Nat) : ∀ (l : List Nat) (k i : Nat), l[k]? = some i → ogt (pickO os σ l) k = renO σ (ogt os i)
  | [], _, _, h => by simp at h
  | _ :: _, 0, _, h => by simp at h; simp [pickO, ogt, h]
  | _ :: r, k + 1, i, h => by simp only [pickO, ogt]; exact ogt_pickO os σ r k i (by simpa using h)

theorem mapO_len (σ : Nat → Option Nat) : ∀ os : List Ob, (mapO σ os).length = os.length
  | [] => rfl
  | _ :: r => by simp [mapO, mapO_len σ r]

theorem ogt_mapO (σ : Nat → Option Nat) : ∀ (os : List Ob) (k : Nat), k < os.length → ogt (mapO σ os) k = renO σ (ogt os k)
  | [], _, h => by simp at h
  | _ :: _, 0, _ => rfl
  | _ :: r, k + 1, h => by simp only [mapO, ogt]; exact ogt_mapO σ r k (by simpa using h)

theorem ogt_app : ∀ (os s : List Ob) (i : Nat), ogt (os ++ s) i = if i < os.length then ogt os i else ogt s (i - os.length)
  | [], s, i => by simp
  | o :: r, s, 0 => by simp [ogt]
  | o :: r, s, i + 1 => by simp only [List.cons_append, ogt, ogt_app r s i, List.length_cons, Nat.add_lt_add_iff_right, Nat.add_sub_add_right]

/-- Where an object behind the call comes from. -/
def fb (sub : List Nat) (n j : Nat) : Option Nat := if j < n then idx sub 0 j else some (sub.length + (j - n))

theorem setOs_len : ∀ {sub : List Nat} {os s : List Ob}, sub.length ≤ s.length → (setOs os sub s).length = os.length + (s.length - sub.length)
  | [], os, s, _ => by simp [setOs]
  | i :: r, os, [], h => by simp at h
  | i :: r, os, o :: s, h => by
    simp only [setOs]
    rw [setOs_len (by simpa using h), ost_len]; simp

theorem ogt_setOs : ∀ {sub : List Nat} {os s : List Ob} {j : Nat}, sub.Nodup → (∀ i ∈ sub, i < os.length) → sub.length ≤ s.length →
    ogt (setOs os sub s) j = if j < os.length then (match idx sub 0 j with | some k => ogt s k | none => ogt os j) else ogt s (sub.length + (j - os.length))
  | [], os, s, j, _, _, _ => by
    simp only [setOs, ogt_app, idx, List.length_nil, Nat.zero_add]
  | i :: r, os, [], j, _, _, h => by simp at h
  | i :: r, os, o :: s, j, hn, hi, h => by
    have hn' := List.nodup_cons.1 hn
    simp only [setOs]
    rw [ogt_setOs hn'.2 (fun q hq => by rw [ost_len]; exact hi q (by simp [hq])) (by simpa using h), ost_len]
    by_cases hj : j < os.length
    · rw [if_pos hj, if_pos hj]
      simp only [idx]
      have shift : ∀ (l : List Nat) (k0 q : Nat), idx l (k0 + 1) q = (idx l k0 q).map (· + 1) := by
        intro l
        induction l with
        | nil => intro k0 q; rfl
        | cons a l ih => intro k0 q; simp only [idx]; split <;> simp [ih]
      by_cases hij : i = j
      · subst hij
        rw [if_pos rfl]
        have : idx r 0 i = none := by
          cases hx : idx r 0 i with
          | none => rfl
          | some k =>
            obtain ⟨j', _, h2⟩ := idx_some hx
            exact absurd (List.mem_of_getElem? h2) hn'.1
        rw [this]
        simp only [ogt_ost, ogt]
        rw [if_pos ⟨trivial, hj⟩]
      · rw [if_neg hij, shift]
        cases idx r 0 j with
        | none => simp only [Option.map_none]; rw [ogt_ost, if_neg (fun hh => hij hh.1)]
        | some k => simp only [Option.map_some, ogt]
    · rw [if_neg hj, if_neg hj]
      simp only [List.length_cons]
      rw [show r.length + 1 + (j - os.length) = (r.length + (j - os.length)) + 1 by omega]
      rfl

theorem fullOs_get : ∀ {os : List Ob} {k : Nat}, fullOs os = true → fullO (ogt os k) = true
  | [], k, _ => by cases k <;> rfl
  | o :: r, k, h => by
    simp only [fullOs] at h
    split at h
    · rename_i h1
      cases k with
      | zero => exact h1
      | succ k => show fullO (ogt r k) = true; exact fullOs_get h
    · cases h

section
variable {P : Program} {W : Dm.W}
variable {w0 : World} {O0 : List Nat} {Z0 : Nat → Prop} {m0 : List OR} {os0 : List Ob} {m : List OR} {fpl : List (List Nat)} {Γ Γ' : St} {a : Act} {w : World} {K : St → SV → Prop}

theorem ObLe.kr_l {id : Nat} {o b : Ob} (h : ObLe o b) : ObLe (Dm.krOb id o) b := by
  cases o with
  | box e cs =>
    rcases h with h | ⟨cs', h1, h2⟩
    · exact .inl h
    · exact .inr ⟨cs', h1, by rw [h2]; exact (krs_len id cs).symm⟩
  | gone => exact h
  | lst => exact h
  | arr => exact h

theorem krE_nr {id : Nat} {R : Nat → Prop} {env : List (Nat × SV)} (h : ∀ s sv, (s, sv) ∈ env → nr R sv) : ∀ s sv, (s, sv) ∈ krE id env → nr (fun i => R i ∨ i = id) sv := by
  intro s sv hs
  obtain ⟨sv0, h1, rfl⟩ := krE_mem hs
  exact nr_kr id R sv0 (h s sv0 h1)

theorem SR.killAll : ∀ (sub : List Nat) {Γ : St} (R : Nat → Prop), SR w0 O0 Z0 m0 os0 m fpl Γ a w → (∀ s sv, (s, sv) ∈ Γ.env → nr R sv) → (∀ i e cs, ogt Γ.objs i = .box e cs → nrs R cs) →
    SR w0 O0 Z0 m0 os0 m fpl (killAll sub Γ) a w ∧ (∀ s sv, (s, sv) ∈ (killAll sub Γ).env → nr (fun i => R i ∨ i ∈ sub) sv) ∧ (∀ i e cs, ogt (killAll sub Γ).objs i = .box e cs → nrs (fun i => R i ∨ i ∈ sub) cs) ∧
      (killAll sub Γ).objs.length = Γ.objs.length ∧ (killAll sub Γ).n = Γ.n ∧ ∀ i b, ObLe (ogt Γ.objs i) b → ObLe (ogt (killAll sub Γ).objs i) b
  | [], Γ, R, h, h1, h2 => by
    have e : (fun i => R i ∨ i ∈ ([] : List Nat)) = R := by funext i; simp
    rw [e]
    exact ⟨h, h1, h2, rfl, rfl, fun _ _ h => h⟩
  | id :: r, Γ, R, h, h1, h2 => by
    have h3 := (h.killRows id).1
    have e : (fun i => (R i ∨ i = id) ∨ i ∈ r) = (fun i => R i ∨ i ∈ id :: r) := by funext i; simp [or_assoc]
    obtain ⟨h4, h5, h6, h7, h8, h9⟩ := SR.killAll r (fun i => R i ∨ i = id) h3 (krE_nr h1) (fun i e cs ho => by
      have ho' : krOb id (ogt Γ.objs i) = .box e cs := by rw [← ogt_krO]; exact ho
      cases hx : ogt Γ.objs i with
      | box e1 cs1 =>
        rw [hx] at ho'
        cases ho'
        exact nrs_krs id R cs1 (h2 i _ _ hx)
      | gone => rw [hx] at ho'; cases ho'
      | lst => rw [hx] at ho'; cases ho'
      | arr => rw [hx] at ho'; cases ho')
    rw [e] at h5 h6
    refine ⟨h4, h5, h6, h7.trans (krO_len _ _), h8, fun i b hb => h9 i b ?_⟩
    show ObLe (ogt (krO id Γ.objs) i) b
    rw [ogt_krO]
    exact hb.kr_l


theorem getD_map {α : Type} {l : List Nat} {f : Nat → α} {d : α} {k i : Nat} (h : l[k]? = some i) : (l.map f).getD k d = f i := by
  simp [List.getD_eq_getElem?_getD, h]

theorem call_good (hW : WOk W) (h : SR w0 O0 Z0 m0 os0 m fpl Γ a w) {f : FuncId} {args : List SV} {vs : List Value} (hc : callQ P W f args Γ K) (hargs : SVrs w (Zn w0 O0 Z0 w fpl) m Γ.objs args vs) :
    Enters P f ∧ Calls P f vs.toArray w fun e w' => ∃ v r Γ', e = .returned v ∧ K Γ' r ∧ Γ'.n = Γ.n ∧ ∃ m' fpl', SR w0 O0 Z0 m0 os0 m' fpl' Γ' a w' ∧ SVr w' (Zn w0 O0 Z0 w' fpl') m' Γ'.objs r v := by
  obtain ⟨lend, sub, Q, hent, hsn, hsl, hdc, hK⟩ := hc
  refine ⟨hent, ?_⟩
  -- what goes with the call
  have hFS : ∀ k i, sub[k]? = some i → (sub.map fun i => fpl.getD i []).getD k [] = fpl.getD i [] := fun k i hk => getD_map hk
  have hmS : ∀ k i, sub[k]? = some i → mg (sub.map (mg m)) k = mg m i := fun k i hk => getD_map hk
  have hFSm : ∀ b, b ∈ (sub.map fun i => fpl.getD i []).flatten ↔ ∃ i ∈ sub, b ∈ fpl.getD i [] := by
    intro b
    simp only [List.mem_flatten, List.mem_map]
    constructor
    · rintro ⟨l, ⟨i, hi, rfl⟩, hb⟩; exact ⟨i, hi, hb⟩
    · rintro ⟨i, hi, hb⟩; exact ⟨_, ⟨i, hi, rfl⟩, hb⟩
  have hFSn : (sub.map fun i => fpl.getD i []).flatten.Nodup := by
    refine List.pairwise_flatten.2 ⟨fun l hl => ?_, ?_⟩
    · obtain ⟨i, _, rfl⟩ := List.mem_map.1 hl
      exact getD_nodup h.ob.nodup i
    · refine List.pairwise_map.2 (List.Pairwise.imp_of_mem (fun {i j} _ _ hij => ?_) hsn)
      intro b h1 b' h2 hbb
      subst hbb
      exact hij (flatten_pair h.ob.nodup h1 h2)
  have hFSl : (sub.map fun i => fpl.getD i []).length = sub.length := by simp
  have hmSl : (sub.map (mg m)).length = sub.length := by simp
  generalize (sub.map fun i => fpl.getD i []) = FS at hFS hFSm hFSn hFSl
  generalize (sub.map (mg m)) = mS at hmS hmSl
  have hFSsub : ∀ b ∈ FS.flatten, b ∈ fpl.flatten := fun b hb => by obtain ⟨i, _, hb⟩ := (hFSm b).1 hb; exact flat_mem hb
  have hFSno : ∀ i, i ∉ sub → ∀ b ∈ fpl.getD i [], b ∉ FS.flatten := by
    intro i hi b hb hm
    obtain ⟨j, hj, hbj⟩ := (hFSm b).1 hm
    exact hi (flatten_pair h.ob.nodup hb hbj ▸ hj)
  -- what the callee may read
  obtain ⟨Zc, hZc1, hZc2, hZcl, hZcn⟩ : ∃ Zc : Nat → Prop, (∀ b, Zn w0 O0 Z0 w fpl b → Zc b) ∧ (∀ b, Zc b → b < w.heap.size ∧ b ∉ FS.flatten) ∧ (lend = true → ∀ b, b < w.heap.size → b ∉ FS.flatten → Zc b) ∧
      (lend = false → ∀ b, Zc b → Zn w0 O0 Z0 w fpl b) := by
    cases lend with
    | true => exact ⟨fun b => b < w.heap.size ∧ b ∉ FS.flatten, fun b hb => ⟨hb.2.1, fun hm => hb.2.2 (hFSsub b hm)⟩, fun _ h => h, fun _ b h1 h2 => ⟨h1, h2⟩, (fun h => nomatch h)⟩
    | false => exact ⟨Zn w0 O0 Z0 w fpl, fun _ h => h, fun b hb => ⟨hb.2.1, fun hm => hb.2.2 (hFSsub b hm)⟩, (fun h => nomatch h), fun _ _ h => h⟩
  have hzc : ∀ b, Zc b → Zn w FS.flatten Zc w FS b := fun b hb => ⟨.inl hb, (hZc2 b hb).1, (hZc2 b hb).2⟩
  have hz : ∀ b, Zn w0 O0 Z0 w fpl b → Zn w FS.flatten Zc w FS b := fun b hb => hzc b (hZc1 b hb)
  have hRN : RN m mS Γ.objs (pickO Γ.objs (idx sub 0) sub) (idx sub 0) := by
    intro i k hk hi
    obtain ⟨j, hj, hjs⟩ := idx_some hk
    rw [Nat.zero_add] at hj
    subst hj
    refine ⟨by rw [pickO_len]; exact (List.getElem?_eq_some_iff.1 hjs).1, hmS _ _ hjs, ?_⟩
    rw [ogt_pickO _ _ _ _ _ hjs]
    exact Sh.renO _ _
  have hobs : ObsR w FS.flatten Zc mS FS (pickO Γ.objs (idx sub 0) sub) w := by
    refine ⟨by rw [pickO_len]; exact hmSl, by rw [pickO_len, hFSl]; exact Nat.le_refl _, fun k hk => ?_, hFSn, fun b hb => ⟨(h.ob.own b (hFSsub b hb)).1, .inl hb⟩, Keep.refl _ _⟩
    rw [pickO_len] at hk
    have hks := List.getElem?_eq_getElem hk
    rw [hFS k _ hks]
    exact obR.ren hRN (ogt_pickO _ _ _ _ _ hks) (hmS _ _ hks) (.inl hz) (h.ob.ob _ (hsl _ (List.getElem_mem hk)))
  have hvs : SVrs w (Zn w FS.flatten Zc w FS) mS (pickO Γ.objs (idx sub 0) sub) (rens (idx sub 0) (lendArgs W Γ lend sub args)) vs := by
    cases lend with
    | false => exact SVrs.ren hRN _ _ (.inl hz) hargs
    | true =>
      refine SVrs.ren hRN _ _ (.inl fun _ h => h) (argPs_r hW h hz (fun i hk hi b hb => ?_) args vs hargs)
      have hi' : i ∉ sub := fun hm => by rw [memN_iff.2 hm] at hk; cases hk
      exact hzc b (hZcl rfl b (h.ob.own b (flat_mem hb)).1 (hFSno i hi' b hb))
  refine (hdc w vs Zc mS FS hZc2 hobs hvs).mono ?_
  rintro e w' ⟨v, r, os, m2, F2, rfl, hQ, hob, htake, hlen, hle, hr⟩
  obtain ⟨hfull, hKK⟩ := hK r os hQ
  rw [pickO_len] at htake hlen hle
  -- the caller's objects behind it
  obtain ⟨hk, hknr, hknb, hkl, hkn, hkle⟩ := SR.killAll sub (fun _ => False) h (fun _ sv _ => nr_false sv) (fun _ _ cs _ => nrs_false cs)
  have hm2l : m2.length = os.length := hob.ml
  have hF2l : os.length ≤ F2.length := hob.fl
  have hfbs : ∀ j k, fb sub Γ.objs.length j = some k → j < Γ.objs.length + (os.length - sub.length) → k < os.length ∧ bk sub Γ.objs.length k = some j := by
    intro j k hj hjl
    unfold fb at hj
    split at hj
    · obtain ⟨k', hk', hks⟩ := idx_some hj
      rw [Nat.zero_add] at hk'
      subst hk'
      have hlt := (List.getElem?_eq_some_iff.1 hks).1
      refine ⟨by omega, ?_⟩
      unfold bk
      rw [if_pos hlt, ngt_eq]; exact hks
    · cases hj
      refine ⟨by omega, ?_⟩
      unfold bk
      rw [if_neg (by omega)]; congr 1; omega
  have hbks : ∀ k j, bk sub Γ.objs.length k = some j → k < os.length → j < Γ.objs.length + (os.length - sub.length) ∧ fb sub Γ.objs.length j = some k := by
    intro k j hj hkl
    unfold bk at hj
    split at hj
    · rename_i hlt
      rw [ngt_eq] at hj
      have hjn := hsl j (List.mem_of_getElem? hj)
      refine ⟨by omega, ?_⟩
      unfold fb
      rw [if_pos hjn, idx_at hsn hj]; simp
    · cases hj
      refine ⟨by omega, ?_⟩
      unfold fb
      rw [if_neg (by omega)]; congr 1; omega
  have hfbn : ∀ j, fb sub Γ.objs.length j = none → j < Γ.objs.length ∧ j ∉ sub := by
    intro j hj
    unfold fb at hj
    split at hj
    · rename_i hlt; exact ⟨hlt, idx_none hj⟩
    · cases hj
  have hmgl : ∀ j k, fb sub Γ.objs.length j = some k → j < Γ.objs.length + (os.length - sub.length) → mg (m ++ m2.drop sub.length) j = mg m2 k := by
    intro j k hj hjl
    unfold fb at hj
    split at hj
    · rename_i hlt
      obtain ⟨k', hk', hks⟩ := idx_some hj
      rw [Nat.zero_add] at hk'
      subst hk'
      have hklt := (List.getElem?_eq_some_iff.1 hks).1
      rw [mg_append (by rw [h.ob.ml]; exact hlt), ← hmS _ _ hks, ← htake]
      unfold mg
      simp only [List.getD_eq_getElem?_getD, List.getElem?_take, if_pos hklt]
    · rename_i hge
      cases hj
      unfold mg
      have hml := h.ob.ml
      simp only [List.getD_eq_getElem?_getD, List.getElem?_append_right (show m.length ≤ j by omega), List.getElem?_drop, hml]
  have hnewl : (setOs (killAll sub Γ).objs sub (mapO (bk sub Γ.objs.length) os)).length = Γ.objs.length + (os.length - sub.length) := by
    rw [setOs_len (by rw [mapO_len]; exact hlen), hkl, mapO_len]
  have hnewg : ∀ j, j < Γ.objs.length + (os.length - sub.length) → ogt (setOs (killAll sub Γ).objs sub (mapO (bk sub Γ.objs.length) os)) j =
      match fb sub Γ.objs.length j with | some k => renO (bk sub Γ.objs.length) (ogt os k) | none => ogt (killAll sub Γ).objs j := by
    intro j hj
    rw [ogt_setOs hsn (fun i hi => by rw [hkl]; exact hsl i hi) (by rw [mapO_len]; exact hlen), hkl]
    unfold fb
    split
    · rename_i hlt
      cases hx : idx sub 0 j with
      | none => rfl
      | some k =>
        obtain ⟨k', hk', hks⟩ := idx_some hx
        have hklt := (List.getElem?_eq_some_iff.1 hks).1
        exact ogt_mapO _ _ _ (by omega)
    · exact ogt_mapO _ _ _ (by omega)
  have hownC : ∀ b ∈ F2.flatten, b < w'.heap.size ∧ (b ∈ FS.flatten ∨ w.heap.size ≤ b) := hob.own
  have hGm : ∀ b, b ∈ ((List.range (Γ.objs.length + (os.length - sub.length))).map fun j => match fb sub Γ.objs.length j with | some k => F2.getD k [] | none => fpl.getD j []).flatten →
      ∃ j, j < Γ.objs.length + (os.length - sub.length) ∧ ((∃ k, fb sub Γ.objs.length j = some k ∧ b ∈ F2.getD k []) ∨ (fb sub Γ.objs.length j = none ∧ b ∈ fpl.getD j [])) := by
    intro b hb
    obtain ⟨l, hl, hb⟩ := List.mem_flatten.1 hb
    obtain ⟨j, hj, rfl⟩ := List.mem_map.1 hl
    refine ⟨j, List.mem_range.1 hj, ?_⟩
    cases hx : fb sub Γ.objs.length j with
    | none => rw [hx] at hb; exact .inr ⟨rfl, hb⟩
    | some k => rw [hx] at hb; exact .inl ⟨k, rfl, hb⟩
  have hapart : ∀ b i, i ∉ sub → b ∈ fpl.getD i [] → b ∉ F2.flatten := by
    intro b i hi hb hm
    rcases (hownC b hm).2 with h1 | h1
    · exact hFSno i hi b hb h1
    · have := (h.ob.own b (flat_mem hb)).1; omega
  have hGn : ((List.range (Γ.objs.length + (os.length - sub.length))).map fun j => match fb sub Γ.objs.length j with | some k => F2.getD k [] | none => fpl.getD j []).flatten.Nodup := by
    refine List.pairwise_flatten.2 ⟨fun l hl => ?_, ?_⟩
    · obtain ⟨j, _, rfl⟩ := List.mem_map.1 hl
      cases fb sub Γ.objs.length j with
      | none => exact getD_nodup h.ob.nodup j
      | some k => exact getD_nodup hob.nodup k
    · refine List.pairwise_map.2 (List.Pairwise.imp_of_mem (fun {i j} hi hj hij => ?_) List.nodup_range)
      intro b h1 b' h2 hbb
      subst hbb
      have hi' := List.mem_range.1 hi
      have hj' := List.mem_range.1 hj
      cases hx : fb sub Γ.objs.length i with
      | none =>
        rw [hx] at h1
        cases hy : fb sub Γ.objs.length j with
        | none => rw [hy] at h2; exact hij (flatten_pair h.ob.nodup h1 h2)
        | some k => rw [hy] at h2; exact hapart b i (hfbn i hx).2 h1 (flat_mem h2)
      | some k =>
        rw [hx] at h1
        cases hy : fb sub Γ.objs.length j with
        | none => rw [hy] at h2; exact hapart b j (hfbn j hy).2 h2 (flat_mem h1)
        | some k' =>
          rw [hy] at h2
          have := flatten_pair hob.nodup h1 h2
          subst this
          have e1 := (hfbs i k hx hi').2
          have e2 := (hfbs j k hy hj').2
          rw [e1] at e2
          exact hij (Option.some.inj e2)
  have hGl : ((List.range (Γ.objs.length + (os.length - sub.length))).map fun j => match fb sub Γ.objs.length j with | some k => F2.getD k [] | none => fpl.getD j []).length = Γ.objs.length + (os.length - sub.length) := by simp
  have hGd : ∀ j, j < Γ.objs.length + (os.length - sub.length) → ((List.range (Γ.objs.length + (os.length - sub.length))).map fun j => match fb sub Γ.objs.length j with | some k => F2.getD k [] | none => fpl.getD j []).getD j [] = match fb sub Γ.objs.length j with | some k => F2.getD k [] | none => fpl.getD j [] := by
    intro j hj
    simp [List.getD_eq_getElem?_getD, hj]
  generalize ((List.range (Γ.objs.length + (os.length - sub.length))).map fun j => match fb sub Γ.objs.length j with | some k => F2.getD k [] | none => fpl.getD j []) = G at hGm hGn hGl hGd
  have hkeep : Keep fpl.flatten w w' := ⟨hob.keep.shape, hob.keep.os, hob.keep.tape, hob.keep.output, hob.keep.size, fun b hb hn => hob.keep.block b hb (fun hm => hn (hFSsub b hm))⟩
  have hsame : ∀ i, i ∉ sub → ∀ b ∈ fpl.getD i [], w'.heap[b]? = w.heap[b]? := fun i hi b hb => hob.keep.block b (h.ob.own b (flat_mem hb)).1 (hFSno i hi b hb)
  have hzone : lend = false → ∀ b, Zn w FS.flatten Zc w' F2 b → Zn w0 O0 Z0 w' G b := by
    intro hl b hb
    have hno : ∀ j, j ∉ sub → b ∉ fpl.getD j [] := by
      intro j hj hm
      rcases hb.1 with h1 | h1 | h1
      · exact (hZcn hl b h1).2.2 (flat_mem hm)
      · exact hFSno j hj b hm h1
      · have := (h.ob.own b (flat_mem hm)).1; omega
    refine ⟨?_, hb.2.1, fun hm => ?_⟩
    · rcases hb.1 with h1 | h1 | h1
      · exact (hZcn hl b h1).1
      · exact .inr (h.ob.own b (hFSsub b h1)).2
      · exact .inr (.inr (Nat.le_trans h.ob.keep.size h1))
    · obtain ⟨j, _, ⟨k, _, h1⟩ | ⟨h1, h2⟩⟩ := hGm b hm
      · exact hb.2.2 (flat_mem h1)
      · exact hno j (hfbn j h1).2 h2
  have hRN2 : RN m2 (m ++ m2.drop sub.length) os (setOs (killAll sub Γ).objs sub (mapO (bk sub Γ.objs.length) os)) (bk sub Γ.objs.length) := by
    intro k j hkj hkl'
    obtain ⟨h1, h2⟩ := hbks k j hkj hkl'
    refine ⟨by rw [hnewl]; exact h1, hmgl j k h2 h1, ?_⟩
    rw [hnewg j h1, h2]
    exact Sh.renO _ _
  obtain ⟨S, hnext⟩ := SR.next hk (w' := w') (m2 := m2.drop sub.length) (fpl' := G) (objs' := setOs (killAll sub Γ).objs sub (mapO (bk sub Γ.objs.length) os)) (fun i => False ∨ i ∈ sub)
    (by rw [hnewl, List.length_append, List.length_drop, h.ob.ml]; omega) (by rw [hnewl, hGl]; exact Nat.le_refl _)
    (fun b hb => by
      obtain ⟨j, hj, ⟨k, h1, h2⟩ | ⟨h1, h2⟩⟩ := hGm b hb
      · have := hownC b (flat_mem h2)
        exact ⟨this.2.imp (hFSsub b) id, this.1⟩
      · exact ⟨.inl (flat_mem h2), Nat.lt_of_lt_of_le (h.ob.own b (flat_mem h2)).1 hob.keep.size⟩)
    hGn hkeep
    (fun i hi => by
      rw [hkl] at hi
      rw [hnewg i (by omega)]
      cases hx : fb sub Γ.objs.length i with
      | none => exact ObLe.refl _
      | some k =>
        refine (hkle i _ ?_).ren_r
        unfold fb at hx
        rw [if_pos hi] at hx
        obtain ⟨k', hk', hks⟩ := idx_some hx
        rw [Nat.zero_add] at hk'
        subst hk'
        have := hle k (List.getElem?_eq_some_iff.1 hks).1
        rw [ogt_pickO _ _ _ _ _ hks] at this
        exact this.ren_l)
    (fun id hid hnR hx => by
      obtain ⟨e1, t1, e2, d1, xs1, hole1, ho⟩ := hx
      rw [hkl] at hid
      have hns : id ∉ sub := fun hm => hnR (.inr hm)
      rw [hnewg id (by omega)] at ho
      have hfn : fb sub Γ.objs.length id = none := by
        cases hx : fb sub Γ.objs.length id with
        | none => rfl
        | some k =>
          unfold fb at hx
          rw [if_pos hid] at hx
          obtain ⟨k', _, hks⟩ := idx_some hx
          exact absurd (List.mem_of_getElem? hks) hns
      rw [hfn] at ho
      have ho : ogt (killAll sub Γ).objs id = _ := ho
      have hb := hk.ob.ob id (by rw [hkl]; exact hid)
      unfold obR at hb
      rw [ho] at hb
      obtain ⟨_, _, fps, _, _, _, h4, _⟩ := hb
      exact hsame id hns _ (by rw [h4]; simp))
    hknr hknb
    (fun S i hi => by
      rw [hnewl] at hi
      have hgi := hnewg i hi
      have hGi := hGd i hi
      cases hx : fb sub Γ.objs.length i with
      | none =>
        rw [hx] at hgi hGi
        obtain ⟨h1, h2⟩ := hfbn i hx
        exact .inl ⟨by rw [hkl]; exact h1, hgi, hGi, hsame i h2⟩
      | some k =>
        rw [hx] at hgi hGi
        obtain ⟨h1, h2⟩ := hfbs i k hx hi
        right
        rw [hGi]
        refine obR.ren hRN2 hgi (hmgl i k hx hi) ?_ (hob.ob k h1)
        cases lend with
        | false => exact .inl (hzone rfl)
        | true => exact .inr (fullOs_get (hfull rfl).2))
  refine ⟨v, _, _, rfl, hKK, hkn, _, _, hnext, SVr.ren hRN2 r v ?_ hr⟩
  cases lend with
  | false => exact .inl (hzone rfl)
  | true => exact .inr (hfull rfl).1

end
end Go.Dm

/- Each operation, told. -/
namespace Go.Dm
open Go

section
variable {P : Program} {ti : TypeId → TI} {own : Bool} (hti : ∀ t, (ti t).ok = true → TIok P ti t)
variable {w0 : World} {O0 : List Nat} {Z0 : Nat → Prop} {m0 : List OR} {os0 : List Ob} {m : List OR} {fpl : List (List Nat)} {Γ Γ' : St} {a : Act} {w : World} {K : St → Prop} {d : Option Nat}

theorem evals (h : SR w0 O0 Z0 m0 os0 m fpl Γ a w) : ∀ xs : List Operand, SVrs w (Zn w0 O0 Z0 w fpl) m Γ.objs (xs.map (rd Γ)) (xs.map a.eval)
  | [] => rfl
  | x :: r => ⟨_, _, rfl, h.eval x, evals h r⟩

theorem good_up {o : Oper} {next : Act → World → Prop} {Q : Exit → Act → World → Prop} {s : Sem Value} (hg : Good w0 O0 Z0 m0 os0 K o.dst a (s.run P w))
    (hn : ∀ a' w' Γ', K Γ' → StR w0 O0 Z0 m0 os0 Γ' a' w' → next a' w') : o.upon P a next Q ((do pure (Next.value (← s)) : Sem Next).run P w) := by
  obtain ⟨v, w', Γ', hr, hk, hst⟩ := hg
  simp only [Sem.run_bind, hr, Result.andThen_ok, Sem.run_pure]
  exact hn _ _ _ hk hst

theorem run_resolve_fn {f : FuncId} {caps : List Value} {ρ : Operand → Value} {c : Call} {ty : TypeId} {x : Operand} (hc : c.callee = .value x) (hx : ρ x = .func (.func f) #[] caps.toArray) (he : Enters P f) :
    (do let d ← resolve ρ c ty; invoke d.target d.args : Sem Next).run P w = .ok (.enter f (c.args.toList.map ρ ++ caps).toArray) w := by
  have h1 : (resolve ρ c ty).run P w = .ok { target := .fn (.func f) caps.toArray, args := #[] ++ c.args.map ρ } w := by
    simp only [resolve, hc, hx, Deferred.ofValue, Sem.run_pure]
  simp only [Sem.run_bind, h1, Result.andThen_ok, invoke]
  rw [he]
  congr 2
  apply Array.ext'
  simp

theorem run_resolve_bi {b : Builtin} {ρ : Operand → Value} {c : Call} {ty : TypeId} (hc : c.callee = .builtin b) :
    ∃ cs, (do let d ← resolve ρ c ty; invoke d.target d.args : Sem Next).run P w = (builtin b c.argTypes ty cs (c.args.map ρ)).run P w := by
  refine ⟨c.args.map fun | .const _ => true | _ => false, ?_⟩
  simp only [resolve, hc, Sem.run_bind, Sem.run_pure, Result.andThen_ok, invoke]
  rfl

include hti in
theorem bi_good (h : SR w0 O0 Z0 m0 os0 m fpl Γ a w) {o : Oper} (hd : ∀ k, o.dst = some k → k < Γ.n) {b : Builtin} {ats : Array TypeId} {args : Array Operand} {ty : TypeId} {cs : Array Bool}
    (hs : opBuiltin (sC P ti own) Γ o.dst b ats.toList (args.toList.map (rd Γ)) K) {next : Act → World → Prop} {Q : Exit → Act → World → Prop}
    (hn : ∀ a' w' Γ', K Γ' → StR w0 O0 Z0 m0 os0 Γ' a' w' → next a' w') : o.upon P a next Q ((builtin b ats ty cs (args.map a.eval)).run P w) := by
  have hvs := evals h args.toList
  have harr : args.map a.eval = (args.toList.map a.eval).toArray := by apply Array.ext'; simp
  have hats : ats = ats.toList.toArray := by simp
  rw [harr, hats]
  unfold opBuiltin at hs
  generalize args.toList.map (rd Γ) = svs at hs hvs
  generalize args.toList.map a.eval = vs at hvs
  generalize ats.toList = al at hs
  split at hs
  · rename_i T x
    simp only [SVrs] at hvs
    obtain ⟨v, vs', rfl, h1, rfl⟩ := hvs
    exact good_up (opLen_good hti h hd hs.1 rfl hs.2 h1) hn
  · rename_i T T2 s x
    simp only [SVrs] at hvs
    obtain ⟨v, vs', rfl, h1, v2, vs2, rfl, h2, rfl⟩ := hvs
    exact good_up (opAppend_good hti h hd hs.1.1 hs.1.2.1 hs.1.2.2 hs.2 h1 h2) hn
  · rename_i T T2 s x
    simp only [SVrs] at hvs
    obtain ⟨v, vs', rfl, h1, v2, vs2, rfl, h2, rfl⟩ := hvs
    exact good_up (opCopy_good hti h hd hs.1 hs.2 h1 h2) hn
  · exact good_up (opMax_good (ats := al.toArray) (ty := ty) h hd true hs hvs) hn
  · exact good_up (opMax_good (ats := al.toArray) (ty := ty) h hd false hs hvs) hn
  · exact hs.elim


include hti in
theorem step_good (h : SR w0 O0 Z0 m0 os0 m fpl Γ a w) {o : Oper} (hdst : dstOk Γ.n o = true) (hs : opStep (sC P ti own) o Γ K) {next : Act → World → Prop} {Q : Exit → Act → World → Prop}
    (hn : ∀ a' w' Γ', K Γ' → StR w0 O0 Z0 m0 os0 Γ' a' w' → next a' w') : o.wp P a w next Q := by
  have hd : ∀ k, o.dst = some k → k < Γ.n := by
    intro k hk
    unfold dstOk at hdst
    rw [hk] at hdst
    simpa using hdst
  have val : ∀ {sv : SV} {v : Value}, K (Γ.put o.dst sv) → SVr w (Zn w0 O0 Z0 w fpl) m Γ.objs sv v → next (a.put o.dst v) w := fun hk hv => hn _ _ _ hk ⟨m, fpl, h.put hd hv⟩
  unfold Oper.wp
  unfold opStep at hs
  split at hs <;> rename_i ho
  · simp only [execOp, ho, Sem.run_pure]; exact val hs (h.eval _)
  · simp only [execOp, ho, Sem.run_pure]; exact val hs (h.eval _)
  · -- pick
    rename_i c x y
    split at hs
    · rename_i b hb
      have hc := h.eval c
      rw [hb] at hc
      simp only [SVr] at hc
      simp only [execOp, ho, hc, asBool, Sem.run_bind, Sem.run_pure, Result.andThen_ok]
      cases b with
      | true => exact val hs (h.eval _)
      | false => exact val hs (h.eval _)
    · exact hs.elim
  · split at hs
    · rename_i hok
      simp only [execOp, ho]
      exact good_up (opBin_good hti h hd hok hs (h.eval _) (h.eval _)) hn
    · exact hs.elim
  · simp only [execOp, ho]
    exact good_up (opUn_good h hd hs (h.eval _)) hn
  · split at hs
    · rename_i h1 h2
      simp only [execOp, ho]
      exact good_up (opConvert_good hti h hd h1 h2 hs (h.eval _)) hn
    · exact hs.elim
  · split at hs
    · rename_i hok
      simp only [execOp, ho]
      exact good_up (opIndexAddr_good hti h hd hok hs (h.eval _) (h.eval _)) hn
    · exact hs.elim
  · split at hs
    · rename_i hok
      simp only [execOp, ho]
      exact good_up (opIndex_good hti h hd hok hs (h.eval _) (h.eval _)) hn
    · exact hs.elim
  · split at hs
    · rename_i hok
      simp only [execOp, ho]
      exact good_up (opFieldAddr_good hti h hd hok hs (h.eval _)) hn
    · exact hs.elim
  · split at hs
    · rename_i hok
      simp only [execOp, ho]
      exact good_up (opField_good hti h hd hok hs (h.eval _)) hn
    · exact hs.elim
  · split at hs
    · rename_i hok
      simp only [execOp, ho]
      exact good_up (opLoad_good hti h hd hok hs (h.eval _)) hn
    · exact hs.elim
  · split at hs
    · rename_i hok hdn
      obtain ⟨w', Γ', hr, hk, hst⟩ := opStore_good hti h hok hs (h.eval _) (h.eval _)
      simp only [execOp, ho, Sem.run_bind, hr, Result.andThen_ok, Sem.run_pure]
      rw [Oper.upon_skip, hdn]
      exact hn _ _ _ hk hst
    · exact hs.elim
  · split at hs
    · rename_i hok
      simp only [execOp, ho]
      exact good_up (opAlloc_good hti h hd hok hs) hn
    · exact hs.elim
  · simp only [execOp, ho]
    exact good_up (opBox_good h hd hs (h.eval _)) hn
  · rename_i t ps
    split at hs
    · rename_i hok
      simp only [execOp, ho]
      have := opBuild_good hti h hd hok hs
      refine good_up (s := Instr.build _ _) ?_ hn
      have e : (ps.map fun x => match x with | (i, x) => (i, a.eval x)) = (ps.toList.map fun p => (p.1, a.eval p.2)).toArray := by apply Array.ext'; simp
      rw [e]
      exact this
    · exact hs.elim
  · rename_i t n ps
    split at hs
    · rename_i hok
      simp only [execOp, ho]
      have := opBuildSlice_good hti h hd hok hs
      refine good_up (s := Instr.buildSlice _ _ _) ?_ hn
      have e : (ps.map fun x => match x with | (i, x) => (i, a.eval x)) = (ps.toList.map fun p => (p.1, a.eval p.2)).toArray := by apply Array.ext'; simp
      rw [e]
      exact this
    · exact hs.elim
  · split at hs
    · rename_i hok
      simp only [execOp, ho]
      exact good_up (opMake_good hti h hd hok hs (h.eval _) (h.eval _)) hn
    · exact hs.elim
  · split at hs
    · rename_i hok
      simp only [execOp, ho]
      exact good_up (opSlice_good hti h hd hok hs) hn
    · exact hs.elim
  · -- extract
    rename_i x i
    split at hs
    · rename_i vs hx
      have hv := h.eval x
      rw [hx] at hv
      simp only [SVr] at hv
      obtain ⟨us, hu, hv⟩ := hv
      obtain ⟨u, h1, h2⟩ := hv.get i hs.1
      have hr : (Instr.extract (a.eval x) i).run P w = .ok u w := by
        rw [hu]
        simp [Instr.extract, h1]
      simp only [execOp, ho]
      exact good_up (good_put h hd hs.2 hr h2) hn
    · exact hs.elim
  · -- a nil test
    rename_i x
    have hv := h.eval x
    split at hs
    · rename_i id off hx
      rw [hx] at hv
      have hv' := hv
      simp only [SVr] at hv'
      obtain ⟨_, _, hv'⟩ := hv'
      split at hs
      · rename_i hob
        rw [hob] at hv'
        simp only [execOp, ho]
        simp only [hv', Sem.run_pure]
        rw [hv'] at hv
        exact val hs hv
      · rename_i hob
        rw [hob] at hv'
        simp only [execOp, ho]
        simp only [hv', Sem.run_pure]
        rw [hv'] at hv
        exact val hs hv
      · exact hs.elim
    · rename_i f hx
      rw [hx] at hv
      have hv' := hv
      simp only [SVr] at hv'
      simp only [execOp, ho]
      simp only [hv', Sem.run_pure]
      rw [hv'] at hv
      exact val hs hv
    · rename_i f c hx
      rw [hx] at hv
      have hv' := hv
      simp only [SVr] at hv'
      obtain ⟨us, hv', _⟩ := hv'
      simp only [execOp, ho]
      simp only [hv', Sem.run_pure]
      rw [hv'] at hv
      exact val hs hv
    · exact hs.elim
  · -- a closure
    rename_i f first caps
    obtain ⟨h1, h2⟩ := hs
    have hf : first = #[] := by simpa using h1
    subst hf
    simp only [execOp, ho]
    refine good_up (good_put h hd h2 (v := .func (.func f) #[] (caps.toList.map a.eval).toArray) ?_ ⟨_, rfl, evals h _⟩) hn
    have e : caps.map a.eval = (caps.toList.map a.eval).toArray := by apply Array.ext'; simp
    simp [Instr.makeFunc, e]
  · -- a call
    rename_i c
    split at hs
    · rename_i b hc
      obtain ⟨cs, hr⟩ := run_resolve_bi (P := P) (w := w) (ρ := a.eval) (ty := o.type) hc
      simp only [execOp, ho]
      rw [hr]
      exact bi_good hti h hd hs hn
    · rename_i x hc
      have hv := h.eval x
      have key : ∀ (f : FuncId) (caps : List Value) (args : List SV), a.eval x = .func (.func f) #[] caps.toArray → SVrs w (Zn w0 O0 Z0 w fpl) m Γ.objs args (c.args.toList.map a.eval ++ caps) →
          callP P f args Γ (fun Γ' r => K (Γ'.put o.dst r)) → o.upon P a next Q ((execOp a.eval o).run P w) := by
        intro f caps args hx ha hcall
        obtain ⟨W, hW1, hW2, frz, hcq⟩ := hcall
        obtain ⟨fpl', hfz, hfa⟩ := h.frz (W := W) ⟨hW1, hW2⟩ frz
        obtain ⟨hent, hcalls⟩ := call_good (K := fun Γ' r => K (Γ'.put o.dst r)) ⟨hW1, hW2⟩ hfz hcq (hfa _ _ ha)
        simp only [execOp, ho]
        rw [run_resolve_fn hc hx hent, Oper.upon_enter]
        refine hcalls.mono ?_
        rintro e w' ⟨v, r, Γ', rfl, hK, hn', m', fpl2, hst, hr⟩
        refine hn _ _ _ hK ⟨m', fpl2, hst.put (fun k hk => ?_) hr⟩
        rw [hn']
        have : (Γ.frz W frz).n = Γ.n := by cases frz <;> rfl
        rw [this]
        exact hd k hk
      split at hs
      · rename_i f hx
        rw [hx] at hv
        simp only [SVr] at hv
        exact key f [] _ (by rw [hv]) (by simpa using evals h c.args.toList) hs
      · rename_i f caps hx
        rw [hx] at hv
        simp only [SVr] at hv
        obtain ⟨us, hv, hus⟩ := hv
        exact key f us _ hv (SVrs.append.2 ⟨_, _, rfl, evals h c.args.toList, hus⟩) hs
      · exact hs.elim
    · exact hs.elim
  · exact hs.elim

end
end Go.Dm

/- Renumbering a state. -/
namespace Go.Dm
open Go

/-- l grows at its end, without repeats. -/
def Grows (l l' : List Nat) : Prop := (∃ r, l' = l ++ r) ∧ (l.Nodup → l'.Nodup)
theorem Grows.refl (l : List Nat) : Grows l l := ⟨⟨[], by simp⟩, id⟩
theorem Grows.trans {a b c : List Nat} (h : Grows a b) (k : Grows b c) : Grows a c := by
  obtain ⟨⟨r, rfl⟩, h⟩ := h
  obtain ⟨⟨s, rfl⟩, k⟩ := k
  exact ⟨⟨r ++ s, by simp⟩, fun hn => k (h hn)⟩
theorem Grows.one (l : List Nat) (i : Nat) : Grows l (if i ∈ l then l else l ++ [i]) := by
  split
  · exact Grows.refl l
  · rename_i h
    refine ⟨⟨[i], rfl⟩, fun hn => List.nodup_append.2 ⟨hn, by simp, ?_⟩⟩
    intro x hx y hy hxy
    simp at hy
    subst hy; subst hxy
    exact h hx

mutual
theorem ids_grows : ∀ (v : SV) (l : List Nat), Grows l (ids v l)
  | .view id _ _, l => Grows.one l id
  | .row id _ _ _, l => Grows.one l id
  | .ptr id _, l => Grows.one l id
  | .aaddr id _, l => Grows.one l id
  | .eaddr id _ _, l => Grows.one l id
  | .raddr id _ _, l => Grows.one l id
  | .clo _ cs, l => by simp only [ids]; exact idss_grows cs l
  | .agg cs, l => by simp only [ids]; exact idss_grows cs l
  | .tup cs, l => by simp only [ids]; exact idss_grows cs l
  | .dead, l | .int _ _, l | .bool _, l | .str _, l | .nilsl, l | .fs _ _ _, l | .faddr _ _ _, l | .nilptr, l | .fn _, l => by simp only [ids]; exact Grows.refl l
theorem idss_grows : ∀ (vs : List SV) (l : List Nat), Grows l (idss vs l)
  | [], l => Grows.refl l
  | v :: r, l => by simp only [idss]; exact (ids_grows v l).trans (idss_grows r _)
end

theorem reach_grows (os : List Ob) : ∀ (n k : Nat) (l : List Nat), Grows l (reach os n k l)
  | 0, _, l => Grows.refl l
  | n + 1, k, l => by
    simp only [reach]
    split
    · exact Grows.refl l
    · refine Grows.trans ?_ (reach_grows os n (k + 1) _)
      split
      · exact idss_grows _ _
      · exact Grows.refl l

theorem sig_ok (Γ : St) (roots : List SV) : (Γ.sig roots).Nodup ∧ (Γ.sig roots).take Γ.fix = List.range Γ.fix := by
  have h := (idss_grows roots (List.range Γ.fix)).trans (reach_grows Γ.objs 64 0 _)
  obtain ⟨⟨r, hr⟩, hn⟩ := h
  refine ⟨hn List.nodup_range, ?_⟩
  unfold St.sig
  rw [hr, List.take_append_of_le_length (by simp)]
  simp

section
variable {P : Program}
variable {w0 : World} {O0 : List Nat} {Z0 : Nat → Prop} {m0 : List OR} {os0 : List Ob} {m : List OR} {fpl : List (List Nat)} {Γ Γ' : St} {a : Act} {w : World}

theorem envOf_mem {σ : Nat → Option Nat} {env : List (Nat × SV)} {s : Nat} {sv : SV} : ∀ {keep : List Nat}, (s, sv) ∈ envOf env σ keep → sv = ren σ (lkp env s)
  | [], h => by simp [envOf] at h
  | k :: r, h => by
    simp only [envOf, List.mem_cons] at h
    rcases h with h | h
    · cases h; rfl
    · exact envOf_mem h

theorem SR.gc (h : SR w0 O0 Z0 m0 os0 m fpl Γ a w) {l : List Nat} (hn : l.Nodup) (hl : l.take Γ.fix = List.range Γ.fix) (keep : List Nat) :
    ∃ m' fpl', SR w0 O0 Z0 m0 os0 m' fpl' (gcW l keep Γ) a w ∧ ∀ sv v, SVr w (Zn w0 O0 Z0 w fpl) m Γ.objs sv v → SVr w (Zn w0 O0 Z0 w fpl') m' (gcW l keep Γ).objs (ren (idx l 0) sv) v := by
  have hll : Γ.fix ≤ l.length := by
    have := congrArg List.length hl
    simp at this; omega
  have hm' : ∀ k i, l[k]? = some i → mg (l.map (mg m)) k = mg m i := fun k i hk => getD_map hk
  have hF : ∀ k i, l[k]? = some i → (l.map fun i => if i < Γ.objs.length then fpl.getD i [] else []).getD k [] = if i < Γ.objs.length then fpl.getD i [] else [] := fun k i hk => getD_map hk
  have hFm : ∀ b, b ∈ (l.map fun i => if i < Γ.objs.length then fpl.getD i [] else []).flatten → ∃ i, i ∈ l ∧ i < Γ.objs.length ∧ b ∈ fpl.getD i [] := by
    intro b hb
    obtain ⟨x, hx, hb⟩ := List.mem_flatten.1 hb
    obtain ⟨i, hi, rfl⟩ := List.mem_map.1 hx
    split at hb
    · rename_i h1; exact ⟨i, hi, h1, hb⟩
    · simp at hb
  have hFn : (l.map fun i => if i < Γ.objs.length then fpl.getD i [] else []).flatten.Nodup := by
    refine List.pairwise_flatten.2 ⟨fun x hx => ?_, ?_⟩
    · obtain ⟨i, _, rfl⟩ := List.mem_map.1 hx
      split
      · exact getD_nodup h.ob.nodup i
      · exact List.Pairwise.nil
    · refine List.pairwise_map.2 (List.Pairwise.imp_of_mem (fun {i j} _ _ hij => ?_) hn)
      intro b h1 b' h2 hbb
      subst hbb
      split at h1
      · split at h2
        · exact hij (flatten_pair h.ob.nodup h1 h2)
        · simp at h2
      · simp at h1
  have hFl : (l.map fun i => if i < Γ.objs.length then fpl.getD i [] else []).length = l.length := by simp
  generalize (l.map fun i => if i < Γ.objs.length then fpl.getD i [] else []) = F at hF hFm hFn hFl
  have hFs : ∀ b ∈ F.flatten, b ∈ fpl.flatten := fun b hb => by obtain ⟨i, _, _, hb⟩ := hFm b hb; exact flat_mem hb
  have hz : ∀ b, Zn w0 O0 Z0 w fpl b → Zn w0 O0 Z0 w F b := fun b hb => ⟨hb.1, hb.2.1, fun hm => hb.2.2 (hFs b hm)⟩
  have hpl : (pickO Γ.objs (idx l 0) l).length = l.length := pickO_len _ _ _
  have hRN : RN m (l.map (mg m)) Γ.objs (pickO Γ.objs (idx l 0) l) (idx l 0) := by
    intro i k hk hi
    obtain ⟨j, hj, hjs⟩ := idx_some hk
    rw [Nat.zero_add] at hj
    subst hj
    refine ⟨by rw [hpl]; exact (List.getElem?_eq_some_iff.1 hjs).1, hm' _ _ hjs, ?_⟩
    rw [ogt_pickO _ _ _ _ _ hjs]
    exact Sh.renO _ _
  have hfixg : ∀ i, i < Γ.fix → l[i]? = some i := by
    intro i hi
    have h1 : (l.take Γ.fix)[i]? = some i := by rw [hl]; simp [hi]
    rwa [List.getElem?_take, if_pos hi] at h1
  refine ⟨l.map (mg m), F, ⟨⟨by show _ = (pickO _ _ _).length; rw [hpl]; simp, by show (pickO _ _ _).length ≤ _; rw [hpl, hFl]; exact Nat.le_refl _, fun k hk => ?_, hFn, fun b hb => h.ob.own b (hFs b hb), h.ob.keep⟩, ?_, h.o0,
    by show Γ.fix ≤ (pickO _ _ _).length; rw [hpl]; exact hll, fun i hi => ?_, h.tm, h.df, fun s sv hs => ?_⟩, fun sv v hv => SVr.ren hRN sv v (.inl hz) hv⟩
  · have hk' : k < l.length := by rw [← hpl]; exact hk
    have hks := List.getElem?_eq_getElem hk'
    show obR w _ (l.map (mg m)) (pickO Γ.objs (idx l 0) l) k _
    rw [hF k _ hks]
    by_cases hlt : l[k] < Γ.objs.length
    · rw [if_pos hlt]
      exact obR.ren hRN (ogt_pickO _ _ _ _ _ hks) (hm' _ _ hks) (.inl hz) (h.ob.ob _ hlt)
    · unfold obR
      rw [ogt_pickO _ _ _ _ _ hks, ogt_out (by omega)]
      trivial
  · show (l.map (mg m)).take Γ.fix = m0
    rw [← List.map_take, hl, ← h.m0]
    apply List.ext_getElem?
    intro i
    rw [List.getElem?_map, List.getElem?_take]
    by_cases hi : i < Γ.fix
    · have := h.fx
      have hm := h.ob.ml
      rw [if_pos hi, List.getElem?_range hi]
      simp only [Option.map_some, mg, List.getD_eq_getElem?_getD]
      rw [List.getElem?_eq_getElem (by omega)]; rfl
    · rw [if_neg hi, List.getElem?_eq_none (by simp; omega)]; rfl
  · show ObLe (ogt os0 i) (ogt (pickO Γ.objs (idx l 0) l) i)
    rw [ogt_pickO _ _ _ _ _ (hfixg i hi)]
    exact (h.le i hi).ren_r
  · rw [envOf_mem hs]
    refine SVr.ren hRN _ _ (.inl hz) ?_
    rcases lkp_mem (env := Γ.env) (s := s) with hl | hl
    · rw [hl]; trivial
    · exact h.env _ _ hl

theorem StR.gc (h : StR w0 O0 Z0 m0 os0 Γ a w) (keep : List Nat) : StR w0 O0 Z0 m0 os0 (Dm.gc keep Γ) a w := by
  obtain ⟨m, fpl, h⟩ := h
  obtain ⟨h1, h2⟩ := sig_ok Γ (vals Γ.env keep)
  obtain ⟨m', fpl', h3, _⟩ := h.gc h1 h2 keep
  exact ⟨m', fpl', h3⟩

end
end Go.Dm

/- Operations that make no object: what they yield hangs on what they look at alone. -/
namespace Go.Dm
open Go

def Ext (a b : List Ob) : Prop := ∃ e, b = a ++ e

theorem ext_ogt {a b : List Ob} (h : Ext a b) {id : Nat} (hn : ogt a id ≠ .gone) : ogt b id = ogt a id := by
  obtain ⟨e, rfl⟩ := h
  rw [ogt_app]
  split
  · rfl
  · rename_i hi
    exfalso; apply hn
    clear hn
    induction a generalizing id with
    | nil => rfl
    | cons o r ih =>
      cases id with
      | zero => simp at hi
      | succ k => exact ih (by simpa using hi)

section
variable {C : Ctx} {Γ : St} {d : Option Nat} {K : St → Prop}

/-- What an operation that makes no object yields. -/
def Loc (f : St → (St → Prop) → Prop) (Γ : St) (d : Option Nat) (K : St → Prop) : Prop :=
  ∃ sv, K (Γ.put d sv) ∧ ∀ (Γ3 : St) (K3 : St → Prop), Γ3.wr = Γ.wr → Ext Γ.objs Γ3.objs → K3 (Γ3.put d sv) → f Γ3 K3

theorem made_loc {k : IntKind} {n : Int} (hs : made C Γ d k n K) : Loc (fun Γ K => made C Γ d k n K) Γ d K := by
  unfold made at hs
  split at hs <;> rename_i hw
  · exact ⟨_, hs, fun Γ3 K3 h1 _ h3 => by simp only [made, h1, hw]; exact h3⟩
  · exact ⟨_, hs.2, fun Γ3 K3 h1 _ h3 => by simp only [made, h1, hw]; exact ⟨hs.1, h3⟩⟩

theorem boo_loc {b : Bool} (hs : boo Γ d b K) : Loc (fun Γ K => boo Γ d b K) Γ d K :=
  ⟨.bool b, hs b rfl, fun Γ3 K3 _ _ h3 c hc => by subst hc; exact h3⟩

theorem Loc.and {p : Prop} {f : St → (St → Prop) → Prop} (hp : p) (h : Loc f Γ d K) : Loc (fun Γ K => p ∧ f Γ K) Γ d K := by
  obtain ⟨sv, h1, h2⟩ := h
  exact ⟨sv, h1, fun Γ3 K3 a b c => ⟨hp, h2 Γ3 K3 a b c⟩⟩

theorem Loc.one {p : St → Prop} {sv : SV} (h : K (Γ.put d sv)) (hp : ∀ Γ3 : St, Ext Γ.objs Γ3.objs → p Γ3) : Loc (fun Γ K => p Γ ∧ K (Γ.put d sv)) Γ d K :=
  ⟨sv, h, fun Γ3 K3 _ b c => ⟨hp Γ3 b, c⟩⟩

theorem viewOk_ext {id : Nat} (h : viewOk Γ id) {Γ3 : St} (he : Ext Γ.objs Γ3.objs) : viewOk Γ3 id := by
  unfold viewOk at *
  split at h
  · rename_i ho
    rw [ext_ogt he (by rw [ho]; simp), ho]; trivial
  · exact h.elim

theorem tyOf_ext {id : Nat} {p : Ty → Prop} (h : tyOf Γ id p) {Γ3 : St} (he : Ext Γ.objs Γ3.objs) : tyOf Γ3 id p := by
  unfold tyOf at *
  split at h
  · rename_i ho
    rw [ext_ogt he (by rw [ho]; simp), ho]; exact h
  · exact h.elim

theorem rowOf_ext {id : Nat} {p : Ty → Prop} (h : rowOf Γ id p) {Γ3 : St} (he : Ext Γ.objs Γ3.objs) : rowOf Γ3 id p := by
  unfold rowOf at *
  split at h
  · rename_i ho
    rw [ext_ogt he (by rw [ho]; simp), ho]; exact h
  · exact h.elim

theorem opBin_loc {op : BinOp} {T : TypeId} {x y : SV} (hs : opBin C Γ d op T x y K) : Loc (fun Γ K => opBin C Γ d op T x y K) Γ d K := by
  unfold opBin at hs
  split at hs
  · split at hs
    · exact ⟨_, hs.2, fun Γ3 K3 _ _ h3 => by simp only [opBin]; exact ⟨hs.1, h3⟩⟩
    · exact ⟨_, hs.2, fun Γ3 K3 _ _ h3 => by simp only [opBin]; exact ⟨hs.1, h3⟩⟩
    · split at hs
      · rename_i hk
        subst hk
        split at hs
        all_goals first
          | exact hs.elim
          | (obtain ⟨sv, h1, h2⟩ := made_loc hs; exact ⟨sv, h1, fun Γ3 K3 a b c => by simp only [opBin, if_true]; exact h2 Γ3 K3 a b c⟩)
          | (obtain ⟨sv, h1, h2⟩ := boo_loc hs; exact ⟨sv, h1, fun Γ3 K3 a b c => by simp only [opBin, if_true]; exact h2 Γ3 K3 a b c⟩)
          | (obtain ⟨sv, h1, h2⟩ := made_loc hs.2; exact ⟨sv, h1, fun Γ3 K3 a b c => by simp only [opBin, if_true]; exact ⟨hs.1, h2 Γ3 K3 a b c⟩⟩)
          | exact ⟨_, hs.2, fun Γ3 K3 _ _ h3 => by simp only [opBin, if_true]; exact ⟨hs.1, h3⟩⟩
          | exact ⟨_, hs, fun Γ3 K3 _ _ h3 => by simp only [opBin, if_true]; exact h3⟩
      · exact hs.elim
  · split at hs
    · obtain ⟨sv, h1, h2⟩ := boo_loc hs.2; exact ⟨sv, h1, fun Γ3 K3 a b c => by simp only [opBin]; exact ⟨hs.1, h2 Γ3 K3 a b c⟩⟩
    · obtain ⟨sv, h1, h2⟩ := boo_loc hs.2; exact ⟨sv, h1, fun Γ3 K3 a b c => by simp only [opBin]; exact ⟨hs.1, h2 Γ3 K3 a b c⟩⟩
    · exact hs.elim
  · split at hs
    · obtain ⟨sv, h1, h2⟩ := boo_loc hs; exact ⟨sv, h1, fun Γ3 K3 a b c => by simp only [opBin]; exact h2 Γ3 K3 a b c⟩
    · obtain ⟨sv, h1, h2⟩ := boo_loc hs; exact ⟨sv, h1, fun Γ3 K3 a b c => by simp only [opBin]; exact h2 Γ3 K3 a b c⟩
    · exact ⟨_, hs.2, fun Γ3 K3 _ _ h3 => by simp only [opBin]; exact ⟨hs.1, h3⟩⟩
    · exact hs.elim
  · split at hs
    · rename_i b hb
      obtain ⟨sv, h1, h2⟩ := boo_loc hs.2; exact ⟨sv, h1, fun Γ3 K3 p q c => by simp only [opBin, hb]; exact ⟨hs.1, h2 Γ3 K3 p q c⟩⟩
    · rename_i b hb
      obtain ⟨sv, h1, h2⟩ := boo_loc hs.2; exact ⟨sv, h1, fun Γ3 K3 p q c => by simp only [opBin, hb]; exact ⟨hs.1, h2 Γ3 K3 p q c⟩⟩
    · exact hs.elim
  · split at hs
    · exact ⟨_, hs.2, fun Γ3 K3 _ _ h3 => by simp only [opBin]; exact ⟨hs.1, h3⟩⟩
    · exact ⟨_, hs.2, fun Γ3 K3 _ _ h3 => by simp only [opBin]; exact ⟨hs.1, h3⟩⟩
    · exact hs.elim
  · split at hs
    · exact ⟨_, hs.2.2, fun Γ3 K3 _ he h3 => by simp only [opBin]; exact ⟨viewOk_ext hs.1 he, hs.2.1, h3⟩⟩
    · exact ⟨_, hs.2.2, fun Γ3 K3 _ he h3 => by simp only [opBin]; exact ⟨viewOk_ext hs.1 he, hs.2.1, h3⟩⟩
    · exact hs.elim
  · exact hs.elim

theorem opUn_loc {op : UnOp} {x : SV} (hs : opUn C Γ d op x K) : Loc (fun Γ K => opUn C Γ d op x K) Γ d K := by
  unfold opUn at hs
  split at hs
  · obtain ⟨sv, h1, h2⟩ := made_loc hs; exact ⟨sv, h1, fun Γ3 K3 p q c => by simp only [opUn]; exact h2 Γ3 K3 p q c⟩
  · split at hs
    · exact ⟨_, hs, fun Γ3 K3 _ _ h3 => by simp only [opUn]; exact h3⟩
    · exact ⟨_, hs, fun Γ3 K3 _ _ h3 => by simp only [opUn]; exact h3⟩
  · exact hs.elim

theorem opIndexAddr_loc {T : TypeId} {x i : SV} (hs : opIndexAddr C Γ d T x i K) : Loc (fun Γ K => opIndexAddr C Γ d T x i K) Γ d K := by
  unfold opIndexAddr at hs
  split at hs
  · exact ⟨_, hs.2.2, fun Γ3 K3 _ _ h3 => by simp only [opIndexAddr]; exact ⟨hs.1, hs.2.1, h3⟩⟩
  · exact ⟨_, hs.2.2, fun Γ3 K3 _ he h3 => by simp only [opIndexAddr]; exact ⟨tyOf_ext hs.1 he, hs.2.1, h3⟩⟩
  · exact ⟨_, hs.2.2, fun Γ3 K3 _ he h3 => by simp only [opIndexAddr]; exact ⟨rowOf_ext hs.1 he, hs.2.1, h3⟩⟩
  · split at hs
    · rename_i ho ha
      exact ⟨_, hs.2, fun Γ3 K3 _ he h3 => by simp only [opIndexAddr, ext_ogt he (by rw [ho]; simp), ho, ha]; exact ⟨hs.1, h3⟩⟩
    · rename_i ho ha
      exact ⟨_, hs.2, fun Γ3 K3 _ he h3 => by simp only [opIndexAddr, ext_ogt he (by rw [ho]; simp), ho, ha]; exact ⟨hs.1, h3⟩⟩
    · exact hs.elim
  · split at hs
    · rename_i ho ha
      exact ⟨_, hs.2, fun Γ3 K3 _ he h3 => by simp only [opIndexAddr, ext_ogt he (by rw [ho]; simp), ho, ha]; exact ⟨hs.1, h3⟩⟩
    · exact hs.elim
  · split at hs
    · rename_i ha
      exact ⟨_, hs.2.2, fun Γ3 K3 _ he h3 => by simp only [opIndexAddr, ha]; exact ⟨viewOk_ext hs.1 he, hs.2.1, h3⟩⟩
    · exact hs.elim
  · split at hs
    · rename_i ha
      exact ⟨_, hs.2, fun Γ3 K3 _ he h3 => by simp only [opIndexAddr, ha]; exact ⟨hs.1, h3⟩⟩
    · exact hs.elim
  · exact hs.elim

theorem opFieldAddr_loc {T : TypeId} {x : SV} {f : Nat} (hs : opFieldAddr C Γ d T x f K) : Loc (fun Γ K => opFieldAddr C Γ d T x f K) Γ d K := by
  unfold opFieldAddr at hs
  split at hs
  · rename_i hf
    split at hs
    · rename_i ho
      exact ⟨_, hs, fun Γ3 K3 _ he h3 => by simp only [opFieldAddr, hf, ext_ogt he (by rw [ho]; simp), ho]; exact h3⟩
    · exact hs.elim
  · rename_i hf
    exact ⟨_, hs.2, fun Γ3 K3 _ he h3 => by simp only [opFieldAddr, hf]; exact ⟨viewOk_ext hs.1 he, h3⟩⟩
  · rename_i hf
    exact ⟨_, hs, fun Γ3 K3 _ he h3 => by simp only [opFieldAddr, hf]; exact h3⟩
  · exact hs.elim

theorem opLoad_loc {T : TypeId} {x : SV} (hs : opLoad C Γ d T x K) : Loc (fun Γ K => opLoad C Γ d T x K) Γ d K := by
  unfold opLoad at hs
  split at hs
  · split at hs
    · rename_i ho
      exact ⟨_, hs.2, fun Γ3 K3 _ he h3 => by simp only [opLoad, ext_ogt he (by rw [ho]; simp), ho]; exact ⟨hs.1, h3⟩⟩
    · exact hs.elim
  · exact ⟨_, hs.2, fun Γ3 K3 _ he h3 => by simp only [opLoad]; exact ⟨hs.1, h3⟩⟩
  · split at hs
    · rename_i ho hag
      exact ⟨_, hs.2.2, fun Γ3 K3 _ he h3 => by simp only [opLoad, ext_ogt he (by rw [ho]; simp), ho, hag]; exact ⟨hs.1, hs.2.1, h3⟩⟩
    · exact hs.elim
  · split at hs
    · rename_i ho
      exact ⟨_, hs.2.2.2, fun Γ3 K3 _ he h3 => by simp only [opLoad, ext_ogt he (by rw [ho]; simp), ho]; exact ⟨hs.1, hs.2.1, hs.2.2.1, h3⟩⟩
    · rename_i hno ho
      refine ⟨_, hs.2.2.2, fun Γ3 K3 _ he h3 => ?_⟩
      have e := ext_ogt he (id := _) (by rw [ho]; simp)
      simp only [opLoad, e, ho]
      exact ⟨hs.1, hs.2.1, hs.2.2.1, h3⟩
    · exact hs.elim
  · split at hs
    · rename_i ho
      exact ⟨_, hs.2.2.2, fun Γ3 K3 _ he h3 => by simp only [opLoad, ext_ogt he (by rw [ho]; simp), ho]; exact ⟨hs.1, hs.2.1, hs.2.2.1, h3⟩⟩
    · exact hs.elim
  · exact hs.elim

theorem opField_loc {T : TypeId} {x : SV} {f : Nat} (hs : opField C Γ d T x f K) : Loc (fun Γ K => opField C Γ d T x f K) Γ d K := by
  unfold opField at hs
  split at hs
  · rename_i hf
    exact ⟨_, hs.2, fun Γ3 K3 _ he h3 => by simp only [opField, hf]; exact ⟨hs.1, h3⟩⟩
  · exact hs.elim

theorem opIndex_loc {T : TypeId} {x i : SV} (hs : opIndex C Γ d T x i K) : Loc (fun Γ K => opIndex C Γ d T x i K) Γ d K := by
  unfold opIndex at hs
  split at hs
  · exact ⟨_, hs.2.2, fun Γ3 K3 _ he h3 => by simp only [opIndex]; exact ⟨hs.1, hs.2.1, h3⟩⟩
  · exact hs.elim

theorem seq_ext {v : SV} {r : (t : Ty) × TypeId × List t.T} (h : seq C Γ v = some r) {Γ3 : St} (he : Ext Γ.objs Γ3.objs) : seq C Γ3 v = some r := by
  unfold seq at *
  split at h
  · exact h
  · split at h
    · rename_i ho
      simp only [ext_ogt he (by rw [ho]; simp), ho]; exact h
    · cases h
  · split at h
    · rename_i ho
      simp only [ext_ogt he (by rw [ho]; simp), ho]; exact h
    · cases h
  · cases h

theorem opConvert_loc {S D : TypeId} {x : SV} (hs : opConvert C Γ d S D x K) : Loc (fun Γ K => opConvert C Γ d S D x K) Γ d K := by
  unfold opConvert at hs
  split at hs
  · rename_i hy
    obtain ⟨sv, h1, h2⟩ := made_loc hs; exact ⟨sv, h1, fun Γ3 K3 p q c => by simp only [opConvert, hy]; exact h2 Γ3 K3 p q c⟩
  · rename_i hy
    exact ⟨_, hs, fun Γ3 K3 _ he h3 => by simp only [opConvert, hy]; exact h3⟩
  · rename_i hy hsl
    split at hs
    · rename_i he
      exact ⟨_, hs.2, fun Γ3 K3 _ _ h3 => by simp only [opConvert, hy, hsl, he]; exact ⟨hs.1, h3⟩⟩
    · exact hs.elim
  · rename_i hn1 hn2 hy
    split at hs
    · rename_i e xs h1 h2
      refine ⟨_, hs.2, fun Γ3 K3 _ he h3 => ?_⟩
      have hse := seq_ext h2 he
      unfold opConvert
      split
      · rename_i hy'; rw [hy] at hy'; cases hy'
      · exact absurd rfl (hn2 _ · )
      · rename_i hy' _; rw [hy] at hy'; cases hy'
      · simp only [h1, hse]; exact ⟨hs.1, h3⟩
      · exact absurd hy (by assumption)
    · exact hs.elim
  · exact hs.elim

end
end Go.Dm

/- One operation whose place in the order is open: what it hangs on. -/
namespace Go.Dm
open Go

section
variable {C : Ctx} {Γ : St} {d : Option Nat} {K : St → Prop}

mutual
theorem argP_ext {W : W} {kp : Nat → Bool} {Γ Γ3 : St} (he : Ext Γ.objs Γ3.objs) : ∀ v : SV, okA (argP W Γ kp v) = true → argP W Γ3 kp v = argP W Γ kp v
  | .view id off len, h => by
    simp only [argP] at h ⊢
    cases hk : kp id with
    | true => simp [hk, okA] at h
    | false =>
      simp only [hk, seqP] at h ⊢
      split at h
      · rename_i heq
        split at heq
        · rename_i ho
          cases heq
          simp only [ext_ogt he (by rw [ho]; simp), ho]
        · cases heq
      · simp [okA] at h
  | .row id j off len, h => by
    simp only [argP] at h ⊢
    cases hk : kp id with
    | true => simp [hk, okA] at h
    | false =>
      simp only [hk, seqP] at h ⊢
      split at h
      · rename_i heq
        split at heq
        · rename_i ho
          cases heq
          simp only [ext_ogt he (by rw [ho]; simp), ho]
        · cases heq
      · simp [okA] at h
  | .clo f cs, h => by simp only [argP, okA] at h ⊢; rw [argPs_ext he cs h]
  | .agg cs, h => by simp only [argP, okA] at h ⊢; rw [argPs_ext he cs h]
  | .tup cs, h => by simp only [argP, okA] at h ⊢; rw [argPs_ext he cs h]
  | .dead, _ | .int _ _, _ | .bool _, _ | .str _, _ | .nilsl, _ | .fs _ _ _, _ | .ptr _ _, _ | .aaddr _ _, _ | .eaddr _ _ _, _ | .raddr _ _ _, _ | .faddr _ _ _, _ | .nilptr, _ | .fn _, _ => rfl
theorem argPs_ext {W : W} {kp : Nat → Bool} {Γ Γ3 : St} (he : Ext Γ.objs Γ3.objs) : ∀ vs : List SV, okAs (argPs W Γ kp vs) = true → argPs W Γ3 kp vs = argPs W Γ kp vs
  | [], _ => rfl
  | v :: r, h => by
    simp only [argPs, okAs] at h ⊢
    split at h
    · rename_i h1
      rw [argP_ext he v h1, argPs_ext he r h]
    · cases h
end

theorem lendArgs_ext {W : W} {lend : Bool} {args : List SV} {Γ Γ3 : St} (he : Ext Γ.objs Γ3.objs) (h : okAs (lendArgs W Γ lend [] args) = true) : lendArgs W Γ3 lend [] args = lendArgs W Γ lend [] args := by
  cases lend with
  | true => exact argPs_ext he args h
  | false => rfl

theorem opSlice_loc {T : TypeId} {x : SV} {lo hi : Option Operand} (hs : opSlice C Γ d T x lo hi K) :
    ∃ sv, K (Γ.put d sv) ∧ ∀ (Γ3 : St) (K3 : St → Prop), (∀ n, bnd Γ3 lo n = bnd Γ lo n) → (∀ n, bnd Γ3 hi n = bnd Γ hi n) → Ext Γ.objs Γ3.objs → K3 (Γ3.put d sv) → opSlice C Γ3 d T x lo hi K3 := by
  unfold opSlice at hs
  split at hs
  · rename_i n hn
    have hn3 : ∀ Γ3 : St, slen C Γ3 x = some n := fun Γ3 => by rw [← hn]; unfold slen; rfl
    split at hs
    · rename_i l h hl hh
      split at hs
      · exact ⟨_, hs.2.2, fun Γ3 K3 h1 h2 he h3 => by simp only [opSlice, hn3, h1, h2, hl, hh]; exact ⟨hs.1, hs.2.1, h3⟩⟩
      · exact ⟨_, hs.2.2, fun Γ3 K3 h1 h2 he h3 => by simp only [opSlice, hn3, h1, h2, hl, hh]; exact ⟨hs.1, hs.2.1, h3⟩⟩
      · exact ⟨_, hs.2.2, fun Γ3 K3 h1 h2 he h3 => by simp only [opSlice, hn3, h1, h2, hl, hh]; exact ⟨tyOf_ext hs.1 he, hs.2.1, h3⟩⟩
      · exact ⟨_, hs.2.2, fun Γ3 K3 h1 h2 he h3 => by simp only [opSlice, hn3, h1, h2, hl, hh]; exact ⟨rowOf_ext hs.1 he, hs.2.1, h3⟩⟩
      · exact hs.elim
    · exact hs.elim
  · exact hs.elim

theorem opLen_loc {T : TypeId} {x : SV} (hs : opLen C Γ d T x K) : Loc (fun Γ K => opLen C Γ d T x K) Γ d K := by
  unfold opLen at hs
  split at hs
  · rename_i ha
    exact ⟨_, hs, fun Γ3 K3 _ _ h3 => by simp only [opLen, ha]; exact h3⟩
  · rename_i ha
    split at hs
    · rename_i n hn
      have hn3 : ∀ Γ3 : St, slen C Γ3 x = some n := fun Γ3 => by rw [← hn]; unfold slen; rfl
      refine ⟨_, hs.2, fun Γ3 K3 _ he h3 => ?_⟩
      simp only [opLen, ha, hn3]
      refine ⟨?_, h3⟩
      have h1 := hs.1
      unfold lenOk at h1 ⊢
      split at h1
      · exact h1
      · exact ⟨viewOk_ext h1.1 he, h1.2⟩
      · exact ⟨rowOf_ext h1.1 he, h1.2⟩
      · exact h1
    · exact hs.elim

theorem opMax_loc {mx : Bool} {x : Int} {r : List SV} (hs : opMax C Γ d mx x r K) : Loc (fun Γ K => opMax C Γ d mx x r K) Γ d K := by
  unfold opMax at hs
  split at hs
  · rename_i h
    exact ⟨_, hs, fun Γ3 K3 _ _ h3 => by simp only [opMax, h]; exact h3⟩
  · exact hs.elim

/-- Two states that agree on what an operation looks at. -/
structure Agr (ops : Array Oper) (o : Oper) (Γ Γ3 : St) : Prop where
  n : Γ3.n = Γ.n
  wr : Γ3.wr = Γ.wr
  lk : ∀ s ∈ o.looksAt ops, lkp Γ3.env s = lkp Γ.env s
  ob : Ext Γ.objs Γ3.objs

theorem Agr.rd {ops : Array Oper} {o : Oper} {Γ Γ3 : St} (h : Agr ops o Γ Γ3) {x : Operand} (hx : x ∈ o.op.operands.toList) : rd Γ3 x = rd Γ x := by
  cases x with
  | tmp t =>
    refine h.lk t ?_
    unfold Oper.looksAt
    exact List.mem_append_left _ (List.mem_filterMap.2 ⟨_, hx, rfl⟩)
  | _ => rfl

theorem Agr.rds {ops : Array Oper} {o : Oper} {Γ Γ3 : St} (h : Agr ops o Γ Γ3) {xs : List Operand} (hx : ∀ x ∈ xs, x ∈ o.op.operands.toList) : xs.map (Dm.rd Γ3) = xs.map (Dm.rd Γ) :=
  List.map_congr_left fun x hm => h.rd (hx x hm)

theorem Agr.bnd {ops : Array Oper} {o : Oper} {Γ Γ3 : St} (h : Agr ops o Γ Γ3) {x : Option Operand} (hx : ∀ y, x = some y → y ∈ o.op.operands.toList) (n : Int) : bnd Γ3 x n = bnd Γ x n := by
  cases x with
  | none => rfl
  | some y => simp only [Dm.bnd, h.rd (hx y rfl)]

/-- What an operation that makes no object yields, its place open. -/
def LocA (ops : Array Oper) (o : Oper) (f : St → (St → Prop) → Prop) (Γ : St) (K : St → Prop) : Prop :=
  ∃ sv, K (Γ.put o.dst sv) ∧ ∀ (Γ3 : St) (K3 : St → Prop), Agr ops o Γ Γ3 → K3 (Γ3.put o.dst sv) → f Γ3 K3

theorem dStep_loc {P : Program} (hq : C.w.qcall = qcallP P) {ops : Array Oper} {o : Oper} (hg : isG C.ti o = true) (hs : dStep C o Γ K) : LocA ops o (dStep C o) Γ K := by
  unfold isG at hg
  split at hg
  · rename_i hc
    clear hg
    unfold cls at hc
    unfold LocA
    split at hc <;> (try (cases hc; done)) <;> rename_i ho
    · rename_i x
      simp only [dStep, opStep, ho] at hs
      exact ⟨_, hs, fun Γ3 K3 ha h3 => by simp only [dStep, opStep, ho, ha.rd (x := x) (by rw [ho]; simp [Op.operands])]; exact h3⟩
    · rename_i x
      simp only [dStep, opStep, ho] at hs
      exact ⟨_, hs, fun Γ3 K3 ha h3 => by simp only [dStep, opStep, ho, ha.rd (x := x) (by rw [ho]; simp [Op.operands])]; exact h3⟩
    · rename_i c x y
      simp only [dStep, opStep, ho] at hs
      split at hs
      · rename_i b hb
        cases b with
        | true => exact ⟨_, hs, fun Γ3 K3 ha h3 => by simp only [dStep, opStep, ho, ha.rd (x := c) (by rw [ho]; simp [Op.operands]), ha.rd (x := x) (by rw [ho]; simp [Op.operands]), hb]; exact h3⟩
        | false => exact ⟨_, hs, fun Γ3 K3 ha h3 => by simp only [dStep, opStep, ho, ha.rd (x := c) (by rw [ho]; simp [Op.operands]), ha.rd (x := y) (by rw [ho]; simp [Op.operands]), hb]; exact h3⟩
      · exact hs.elim
    · rename_i op t x y _
      simp only [dStep, opStep, ho] at hs
      split at hs
      · rename_i hok
        obtain ⟨sv, h1, h2⟩ := opBin_loc hs
        exact ⟨sv, h1, fun Γ3 K3 ha h3 => by
          simp only [dStep, opStep, ho, hok, ha.rd (x := x) (by rw [ho]; simp [Op.operands]), ha.rd (x := y) (by rw [ho]; simp [Op.operands])]
          exact h2 Γ3 K3 ha.wr ha.ob h3⟩
      · exact hs.elim
    · rename_i op _ x
      simp only [dStep, opStep, ho] at hs
      obtain ⟨sv, h1, h2⟩ := opUn_loc hs
      exact ⟨sv, h1, fun Γ3 K3 ha h3 => by
        simp only [dStep, opStep, ho, ha.rd (x := x) (by rw [ho]; simp [Op.operands])]
        exact h2 Γ3 K3 ha.wr ha.ob h3⟩
    · rename_i s t x
      simp only [dStep, opStep, ho] at hs
      split at hs
      · rename_i hok1 hok2
        obtain ⟨sv, h1, h2⟩ := opConvert_loc hs
        exact ⟨sv, h1, fun Γ3 K3 ha h3 => by
          simp only [dStep, opStep, ho, hok1, hok2, ha.rd (x := x) (by rw [ho]; simp [Op.operands])]
          exact h2 Γ3 K3 ha.wr ha.ob h3⟩
      · exact hs.elim
    · rename_i t x i
      simp only [dStep, opStep, ho] at hs
      split at hs
      · rename_i hok
        obtain ⟨sv, h1, h2⟩ := opIndexAddr_loc hs
        exact ⟨sv, h1, fun Γ3 K3 ha h3 => by
          simp only [dStep, opStep, ho, hok, ha.rd (x := x) (by rw [ho]; simp [Op.operands]), ha.rd (x := i) (by rw [ho]; simp [Op.operands])]
          exact h2 Γ3 K3 ha.wr ha.ob h3⟩
      · exact hs.elim
    · rename_i t x i
      simp only [dStep, opStep, ho] at hs
      split at hs
      · rename_i hok
        obtain ⟨sv, h1, h2⟩ := opIndex_loc hs
        exact ⟨sv, h1, fun Γ3 K3 ha h3 => by
          simp only [dStep, opStep, ho, hok, ha.rd (x := x) (by rw [ho]; simp [Op.operands]), ha.rd (x := i) (by rw [ho]; simp [Op.operands])]
          exact h2 Γ3 K3 ha.wr ha.ob h3⟩
      · exact hs.elim
    · rename_i t x f
      simp only [dStep, opStep, ho] at hs
      split at hs
      · rename_i hok
        obtain ⟨sv, h1, h2⟩ := opFieldAddr_loc hs
        exact ⟨sv, h1, fun Γ3 K3 ha h3 => by
          simp only [dStep, opStep, ho, hok, ha.rd (x := x) (by rw [ho]; simp [Op.operands])]
          exact h2 Γ3 K3 ha.wr ha.ob h3⟩
      · exact hs.elim
    · rename_i t x f
      simp only [dStep, opStep, ho] at hs
      split at hs
      · rename_i hok
        obtain ⟨sv, h1, h2⟩ := opField_loc hs
        exact ⟨sv, h1, fun Γ3 K3 ha h3 => by
          simp only [dStep, opStep, ho, hok, ha.rd (x := x) (by rw [ho]; simp [Op.operands])]
          exact h2 Γ3 K3 ha.wr ha.ob h3⟩
      · exact hs.elim
    · rename_i t x
      simp only [dStep, opStep, ho] at hs
      split at hs
      · rename_i hok
        obtain ⟨sv, h1, h2⟩ := opLoad_loc hs
        exact ⟨sv, h1, fun Γ3 K3 ha h3 => by
          simp only [dStep, opStep, ho, hok, ha.rd (x := x) (by rw [ho]; simp [Op.operands])]
          exact h2 Γ3 K3 ha.wr ha.ob h3⟩
      · exact hs.elim
    · rename_i x i
      simp only [dStep, opStep, ho] at hs
      split at hs
      · rename_i vs hx
        exact ⟨_, hs.2, fun Γ3 K3 ha h3 => by simp only [dStep, opStep, ho, ha.rd (x := x) (by rw [ho]; simp [Op.operands]), hx]; exact ⟨hs.1, h3⟩⟩
      · exact hs.elim
    · rename_i x
      simp only [dStep, opStep, ho] at hs
      split at hs
      · rename_i id off hx
        split at hs
        · rename_i hob
          exact ⟨_, hs, fun Γ3 K3 ha h3 => by simp only [dStep, opStep, ho, ha.rd (x := x) (by rw [ho]; simp [Op.operands]), hx, ext_ogt ha.ob (id := id) (by rw [hob]; simp), hob]; exact h3⟩
        · rename_i hob
          exact ⟨_, hs, fun Γ3 K3 ha h3 => by simp only [dStep, opStep, ho, ha.rd (x := x) (by rw [ho]; simp [Op.operands]), hx, ext_ogt ha.ob (id := id) (by rw [hob]; simp), hob]; exact h3⟩
        · exact hs.elim
      · rename_i hx
        exact ⟨_, hs, fun Γ3 K3 ha h3 => by simp only [dStep, opStep, ho, ha.rd (x := x) (by rw [ho]; simp [Op.operands]), hx]; exact h3⟩
      · rename_i hx
        exact ⟨_, hs, fun Γ3 K3 ha h3 => by simp only [dStep, opStep, ho, ha.rd (x := x) (by rw [ho]; simp [Op.operands]), hx]; exact h3⟩
      · exact hs.elim
    · rename_i t x lo hi
      simp only [dStep, opStep, ho] at hs
      split at hs
      · rename_i hok
        obtain ⟨sv, h1, h2⟩ := opSlice_loc hs
        exact ⟨sv, h1, fun Γ3 K3 ha h3 => by
          simp only [dStep, opStep, ho, hok, ha.rd (x := x) (by rw [ho]; simp [Op.operands])]
          exact h2 Γ3 K3 (fun n => ha.bnd (fun y hy => by rw [ho, hy]; simp [Op.operands]) n) (fun n => ha.bnd (fun y hy => by rw [ho, hy]; simp [Op.operands]) n) ha.ob h3⟩
      · exact hs.elim
    · exfalso
      revert hc
      split
      · split
        · split <;> intro hc <;> cases hc
        · intro hc; cases hc
      · intro hc; cases hc
    · rename_i c
      split at hc <;> rename_i hcl
      · split at hc <;> (try (cases hc; done))
        all_goals
          simp only [dStep, opStep, ho, hcl] at hs
          have hops : ∀ x ∈ c.args.toList, x ∈ o.op.operands.toList := fun x hx => by rw [ho]; simp [Op.operands, Call.operands, hcl]; simpa using hx
          revert hs
          intro hs
          have hm : ∀ Γ3, Agr ops o Γ Γ3 → c.args.toList.map (Dm.rd Γ3) = c.args.toList.map (Dm.rd Γ) := fun Γ3 ha => ha.rds hops
          unfold opBuiltin at hs
        · split at hs <;> (try (exact hs.elim)) <;> (try contradiction)
          rename_i T x h1 h2
          obtain ⟨sv, h3, h4⟩ := opLen_loc hs.2
          exact ⟨sv, h3, fun Γ3 K3 ha h5 => by
            simp only [dStep, opStep, ho, hcl, hm Γ3 ha, h1, h2, opBuiltin]
            exact ⟨hs.1, h4 Γ3 K3 ha.wr ha.ob h5⟩⟩
        · split at hs <;> (try (exact hs.elim)) <;> (try contradiction)
          rename_i x r _ h2
          obtain ⟨sv, h3, h4⟩ := opMax_loc hs
          exact ⟨sv, h3, fun Γ3 K3 ha h5 => by
            simp only [dStep, opStep, ho, hcl, hm Γ3 ha, h2, opBuiltin]
            exact h4 Γ3 K3 ha.wr ha.ob h5⟩
        · split at hs <;> (try (exact hs.elim)) <;> (try contradiction)
          rename_i x r _ h2
          obtain ⟨sv, h3, h4⟩ := opMax_loc hs
          exact ⟨sv, h3, fun Γ3 K3 ha h5 => by
            simp only [dStep, opStep, ho, hcl, hm Γ3 ha, h2, opBuiltin]
            exact h4 Γ3 K3 ha.wr ha.ob h5⟩
      · rename_i f
        split at hc
        · rename_i hsc
          have hops : ∀ x ∈ c.args.toList, x ∈ o.op.operands.toList := fun x hx => by rw [ho]; simp [Op.operands, Call.operands, hcl]; right; simpa using hx
          simp only [dStep, ho, hcl, hsc, hq] at hs
          obtain ⟨W, hw1, hw2, sv, h1, h2, h3, h4, h5⟩ := hs
          exact ⟨sv, h5, fun Γ3 K3 ha h6 => by
            simp only [dStep, ho, hcl, hsc, hq, ha.rds hops]
            have he := lendArgs_ext ha.ob h2
            exact ⟨W, hw1, hw2, sv, h1, by rw [he]; exact h2, by rw [he]; exact h3, h4, h6⟩⟩
        · cases hc
      · cases hc
  · cases hg

end
end Go.Dm

/- Every order of a region's head comes to the same. -/
namespace Go.Dm
open Go

section
variable {C : Ctx} {Γ : St} {d : Option Nat} {K : St → Prop}

theorem dstOf_eq : ∀ (all : List Oper) (j : Nat), dstOf all j = (all[j]?).bind (·.dst)
  | [], _ => by simp [dstOf]
  | o :: _, 0 => by simp [dstOf]
  | _ :: r, j + 1 => by simp [dstOf, dstOf_eq r j]

/-- One operation under its guard. -/
def gdo (all : List Oper) (o : Oper) (stp : St → (St → Prop) → Prop) (Γ : St) (K : St → Prop) : Prop := match dstOk Γ.n o with
  | false => False
  | true => match o.guard with
    | none => stp Γ K
    | some (j, want) => match dstOf all j with
      | some s => (match lkp Γ.env s with
        | .bool b => (match b with
          | true => (match want with | true => stp Γ K | false => K (Γ.put o.dst (.tup [])))
          | false => (match want with | false => stp Γ K | true => K (Γ.put o.dst (.tup []))))
        | .tup [] => K (Γ.put o.dst (.tup []))
        | _ => False)
      | none => False

theorem dAt_eq (all : List Oper) (o : Oper) : dAt C all o Γ K = gdo all o (dStep C o) Γ K := rfl
theorem wpOs_cons (all : List Oper) (o : Oper) (r : List Oper) : wpOs C all (o :: r) Γ K = gdo all o (opStep C o) Γ (fun Γ' => wpOs C all r Γ' K) := rfl

/-- Whether it is carried out, left out, or neither is known. -/
theorem gdo_cases {all : List Oper} {o : Oper} {stp : St → (St → Prop) → Prop} (hs : gdo all o stp Γ K) :
    dstOk Γ.n o = true ∧ ((stp Γ K ∧ ∀ (Γ3 : St) (K3 : St → Prop) (stp' : St → (St → Prop) → Prop), Γ3.n = Γ.n → (∀ s ∈ o.looksAt all.toArray, lkp Γ3.env s = lkp Γ.env s) → stp' Γ3 K3 → gdo all o stp' Γ3 K3) ∨
      (K (Γ.put o.dst (.tup [])) ∧ ∀ (Γ3 : St) (K3 : St → Prop) (stp' : St → (St → Prop) → Prop), Γ3.n = Γ.n → (∀ s ∈ o.looksAt all.toArray, lkp Γ3.env s = lkp Γ.env s) → K3 (Γ3.put o.dst (.tup [])) → gdo all o stp' Γ3 K3)) := by
  unfold gdo at hs
  split at hs
  · exact hs.elim
  · rename_i hd
    refine ⟨hd, ?_⟩
    split at hs
    · rename_i hg
      exact .inl ⟨hs, fun Γ3 K3 stp' h1 h2 h3 => by simp only [gdo, h1, hd, hg]; exact h3⟩
    · rename_i j want hg
      split at hs
      · rename_i s hj
        have hmem : s ∈ o.looksAt all.toArray := by
          unfold Oper.looksAt
          refine List.mem_append_right _ ?_
          rw [hg]
          rw [dstOf_eq] at hj
          simpa using hj
        split at hs
        · rename_i b hb
          split at hs <;> split at hs
          · exact .inl ⟨hs, fun Γ3 K3 stp' h1 h2 h3 => by simp only [gdo, h1, hd, hg, hj, h2 s hmem, hb]; exact h3⟩
          · exact .inr ⟨hs, fun Γ3 K3 stp' h1 h2 h3 => by simp only [gdo, h1, hd, hg, hj, h2 s hmem, hb]; exact h3⟩
          · exact .inl ⟨hs, fun Γ3 K3 stp' h1 h2 h3 => by simp only [gdo, h1, hd, hg, hj, h2 s hmem, hb]; exact h3⟩
          · exact .inr ⟨hs, fun Γ3 K3 stp' h1 h2 h3 => by simp only [gdo, h1, hd, hg, hj, h2 s hmem, hb]; exact h3⟩
        · rename_i hb
          exact .inr ⟨hs, fun Γ3 K3 stp' h1 h2 h3 => by simp only [gdo, h1, hd, hg, hj, h2 s hmem, hb]; exact h3⟩
        · exact hs.elim
      · exact hs.elim

theorem dAt_loc {P : Program} (hq : C.w.qcall = qcallP P) {all : List Oper} {o : Oper} (hg : isG C.ti o = true) (hs : dAt C all o Γ K) : LocA all.toArray o (dAt C all o) Γ K := by
  rw [dAt_eq] at hs
  rcases (gdo_cases hs).2 with ⟨h1, h2⟩ | ⟨h1, h2⟩
  · obtain ⟨sv, h3, h4⟩ := dStep_loc hq (ops := all.toArray) hg h1
    exact ⟨sv, h3, fun Γ3 K3 ha h5 => h2 Γ3 K3 _ ha.n ha.lk (h4 Γ3 K3 ha h5)⟩
  · exact ⟨_, h1, fun Γ3 K3 ha h5 => h2 Γ3 K3 _ ha.n ha.lk h5⟩

/-- Two states alike to an operation. -/
structure Same (ops : Array Oper) (o : Oper) (Γ Γ3 : St) : Prop where
  n : Γ3.n = Γ.n
  wr : Γ3.wr = Γ.wr
  lk : ∀ s ∈ o.looksAt ops, lkp Γ3.env s = lkp Γ.env s
  ob : Γ3.objs = Γ.objs

theorem Same.agr {ops : Array Oper} {o : Oper} {Γ Γ3 : St} (h : Same ops o Γ Γ3) : Agr ops o Γ Γ3 := ⟨h.n, h.wr, h.lk, [], by rw [h.ob]; simp⟩

theorem setO_nil (Γ : St) : Γ.setO (Γ.objs ++ []) = Γ := by simp [St.setO]

def Outs (o : Oper) (Γ1 Γ2 : St) (K1 K2 : St → Prop) : Prop := ∀ v os, K1 ((Γ1.setO (Γ1.objs ++ os)).put o.dst v) → K2 ((Γ2.setO (Γ2.objs ++ os)).put o.dst v)

theorem Outs.put {o : Oper} {Γ1 Γ2 : St} {K1 K2 : St → Prop} (h : Outs o Γ1 Γ2 K1 K2) {v : SV} (hk : K1 (Γ1.put o.dst v)) : K2 (Γ2.put o.dst v) := by
  have := h v []
  rw [setO_nil, setO_nil] at this
  exact this hk

theorem ofCells_fs (xs : SV) (hx : (∃ t e ys, xs = .fs t e ys) ∨ xs = .dead) (r : List SV) : ∀ {t : Ty} {y : t.T} {q : List SV}, t.flat = true → ofCells t (xs :: r) = some (y, q) → q = xs :: r
  | .int k, y, q, _, h => by rcases hx with ⟨_, _, _, rfl⟩ | rfl <;> simp [ofCells] at h
  | .bool, y, q, _, h => by rcases hx with ⟨_, _, _, rfl⟩ | rfl <;> simp [ofCells] at h
  | .str, y, q, _, h => by rcases hx with ⟨_, _, _, rfl⟩ | rfl <;> simp [ofCells] at h
  | .sl _ _, y, q, hf, h => by simp [Ty.flat] at hf
  | .unit, y, q, _, h => by simp only [ofCells, Option.some.injEq, Prod.mk.injEq] at h; exact h.2.symm
  | .pair a b, y, q, hf, h => by
    simp only [Ty.flat, Bool.and_eq_true] at hf
    simp only [ofCells] at h
    split at h
    · rename_i x r1 h1
      have := ofCells_fs xs hx r hf.1 h1
      subst this
      split at h
      · rename_i z r2 h2
        have := ofCells_fs xs hx r hf.2 h2
        cases h
        exact this
      · cases h
    · cases h

theorem elt_flat {t : Ty} {dd : Nat} {v : SV} {x : t.T} {Γ' : St} (hf : t.flat = true) (h : elt C Γ t dd v = some (x, Γ')) : Γ' = Γ ∧ ∀ Γ2 : St, Γ2.objs = Γ.objs → elt C Γ2 t dd v = some (x, Γ2) := by
  have key : ∀ Γ : St, elt C Γ t dd v = (if t.flat = true ∨ dd = 0 then (match ofV t (frz C Γ v).1 with | some x => some (x, (frz C Γ v).2) | none => none) else none) := by
    intro Γ
    unfold elt
    split
    · simp [Ty.flat] at hf
    · rfl
  rw [key] at h
  rw [if_pos (.inl hf)] at h
  have hv : (∀ id off len, v ≠ .view id off len) := by
    intro id off len he
    subst he
    split at h
    · rename_i y hy
      simp only [frz] at hy
      have hsn : (∃ t e ys, snap C Γ (.view id off len) = .fs t e ys) ∨ snap C Γ (.view id off len) = .dead := by
        simp only [snap]
        cases seq C Γ (.view id off len) with
        | none => exact .inr rfl
        | some r => exact .inl ⟨_, _, _, rfl⟩
      unfold ofV at hy
      have hc : cellsV (snap C Γ (.view id off len)) = [snap C Γ (.view id off len)] := by rcases hsn with ⟨_, _, _, e⟩ | e <;> rw [e] <;> rfl
      rw [hc] at hy
      split at hy
      · rename_i h2
        have := ofCells_fs _ hsn [] hf h2
        simp at this
      · cases hy
    · cases h
  have hfr : ∀ Γ : St, frz C Γ v = (v, Γ) := by
    intro Γ
    unfold frz
    split
    · exact absurd rfl (hv _ _ _)
    · rfl
  rw [hfr] at h
  split at h
  · rename_i y hy
    cases h
    refine ⟨rfl, fun Γ2 _ => ?_⟩
    rw [key, if_pos (.inl hf), hfr]
    simp only at hy ⊢
    rw [hy]
  · cases h

theorem elts_flat {t : Ty} {dd : Nat} (hf : t.flat = true) : ∀ {r : List (Nat × SV)} {k : Nat} {xs : List t.T} {Γ Γ' : St}, elts C t dd Γ k r = some (xs, Γ') → Γ' = Γ ∧ ∀ Γ2 : St, Γ2.objs = Γ.objs → elts C t dd Γ2 k r = some (xs, Γ2)
  | [], k, xs, Γ, Γ', h => by simp only [elts, Option.some.injEq, Prod.mk.injEq] at h; obtain ⟨rfl, rfl⟩ := h; exact ⟨rfl, fun _ _ => rfl⟩
  | (i, v) :: r, k, xs, Γ, Γ', h => by
    simp only [elts] at h
    split at h
    · rename_i hik
      split at h
      · rename_i x G1 h1
        obtain ⟨rfl, h2⟩ := elt_flat hf h1
        split at h
        · rename_i ys G2 h3
          obtain ⟨rfl, h4⟩ := elts_flat hf h3
          cases h
          exact ⟨rfl, fun Γ2 he => by simp only [elts, hik, if_true, h2 Γ2 he, h4 Γ2 he]⟩
        · cases h
      · cases h
    · cases h

theorem dStep_nat {P : Program} (hq : C.w.acall = acallP P) {ops : Array Oper} {o : Oper} (hc : cls C.ti o = .a) {Γ1 Γ2 : St} {K1 K2 : St → Prop} (hs : dStep C o Γ1 K1) (h : Same ops o Γ1 Γ2) (hk : Outs o Γ1 Γ2 K1 K2) : dStep C o Γ2 K2 := by
  have hrd : ∀ {x : Operand}, x ∈ o.op.operands.toList → rd Γ2 x = rd Γ1 x := fun hx => h.agr.rd hx
  unfold cls at hc
  split at hc <;> (try (cases hc; done)) <;> rename_i ho
  · rename_i t
    simp only [dStep, opStep, ho] at hs ⊢
    split at hs
    · rename_i hok
      unfold opAlloc at hs ⊢
      split at hs
      · have := hk _ _ hs
        rw [h.ob] at this ⊢; exact this
      · have := hk _ _ hs
        rw [h.ob] at this ⊢; exact this
    · exact hs.elim
  · rename_i t l c
    simp only [dStep, opStep, ho, hrd (x := l) (by rw [ho]; simp [Op.operands])] at hs ⊢
    rw [hrd (x := c) (by rw [ho]; simp [Op.operands])]
    split at hs
    · rename_i hok
      unfold opMake at hs ⊢
      split at hs
      · rename_i e l' c' h1 h2 h3
        split at hs
        · rename_i y hy
          obtain ⟨a1, a2, a3, a4, a5, a6⟩ := hs
          have := hk _ _ a6
          refine ⟨a1, a2, a3, a4, a5, ?_⟩
          rw [h.ob] at this ⊢; exact this
        · exact hs.elim
      · exact hs.elim
    · exact hs.elim
  · rename_i t n ps
    split at hc <;> (try (cases hc; done))
    rename_i e he
    split at hc <;> (try (cases hc; done))
    rename_i y hy
    split at hc <;> (try (cases hc; done))
    rename_i hfl
    have hps : (ps.toList.map fun p => (p.1, rd Γ2 p.2)) = (ps.toList.map fun p => (p.1, rd Γ1 p.2)) := List.map_congr_left fun p hp => by
      rw [hrd (x := p.2) (by rw [ho]; simp only [Op.operands]; simpa using ⟨p.1, by simpa using hp⟩)]
    simp only [dStep, opStep, ho] at hs ⊢
    rw [hps]
    split at hs
    · rename_i hok
      unfold opBuildSlice at hs ⊢
      simp only [he, hy] at hs ⊢
      split at hs
      · rename_i xs G' h1
        obtain ⟨rfl, h2⟩ := elts_flat hfl h1
        simp only [h2 Γ2 h.ob]
        refine ⟨hs.1, ?_⟩
        have := hk _ _ hs.2
        rw [h.ob] at this ⊢; exact this
      · exact hs.elim
    · exact hs.elim
  · rename_i c
    split at hc <;> rename_i hcl
    · split at hc <;> cases hc
    · rename_i f
      split at hc
      · cases hc
      · rename_i hsc
        have hops : ∀ x ∈ c.args.toList, x ∈ o.op.operands.toList := fun x hx => by rw [ho]; simp [Op.operands, Call.operands, hcl]; right; simpa using hx
        simp only [dStep, ho, hcl, hsc, hq, h.agr.rds hops] at hs ⊢
        obtain ⟨W, hw1, hw2, lend, Q, h1, h2, h3, h4⟩ := hs
        have he := lendArgs_ext (Γ3 := Γ2) ⟨[], by rw [h.ob]; simp⟩ h2
        refine ⟨W, hw1, hw2, lend, Q, h1, by rw [he]; exact h2, by rw [he]; exact h3, fun r os hr => ?_⟩
        obtain ⟨h5, h6⟩ := h4 r os hr
        refine ⟨h5, ?_⟩
        have := hk _ _ h6
        rw [h.ob] at this ⊢; exact this
    · cases hc

theorem dAt_nat {P : Program} (hq : C.w.qcall = qcallP P) (ha : C.w.acall = acallP P) {all : List Oper} {o : Oper} (hc : cls C.ti o ≠ .s) {Γ1 Γ2 : St} {K1 K2 : St → Prop} (hs : dAt C all o Γ1 K1)
    (h : Same all.toArray o Γ1 Γ2) (hk : Outs o Γ1 Γ2 K1 K2) : dAt C all o Γ2 K2 := by
  cases hcl : cls C.ti o with
  | g =>
    obtain ⟨sv, h1, h2⟩ := dAt_loc hq (by unfold isG; rw [hcl]) hs
    exact h2 Γ2 K2 h.agr (hk.put h1)
  | a =>
    rw [dAt_eq] at hs ⊢
    rcases (gdo_cases hs).2 with ⟨h1, h2⟩ | ⟨h1, h2⟩
    · exact h2 Γ2 K2 _ h.n h.lk (dStep_nat ha hcl h1 h hk)
    · exact h2 Γ2 K2 _ h.n h.lk (hk.put h1)
  | s => exact absurd hcl hc

end
end Go.Dm

/- Every order of a region's head comes to the same: the proof. -/
namespace Go.Dm
open Go

theorem lkp_drp {env : List (Nat × SV)} {d s : Nat} : lkp (drp env d) s = if s = d then .dead else lkp env s := by
  induction env with
  | nil => simp [drp, lkp]
  | cons p r ih =>
    obtain ⟨k, v⟩ := p
    simp only [drp]
    by_cases hk : k = d
    · rw [if_pos hk, ih]
      split
      · rfl
      · rename_i hs
        simp only [lkp]
        rw [if_neg (by intro e; exact hs (e.symm.trans hk))]
    · rw [if_neg hk]
      simp only [lkp, ih]
      by_cases hks : k = s
      · subst hks; simp [hk]
      · simp [hks]

theorem mem_drp {env : List (Nat × SV)} {d : Nat} {p : Nat × SV} : p ∈ drp env d ↔ p ∈ env ∧ p.1 ≠ d := by
  obtain ⟨s, sv⟩ := p
  refine ⟨drp_mem, ?_⟩
  induction env with
  | nil => rintro ⟨h, _⟩; simp at h
  | cons q r ih =>
    obtain ⟨k, v⟩ := q
    rintro ⟨h, hn⟩
    simp only [drp]
    rcases List.mem_cons.1 h with h | h
    · cases h
      rw [if_neg hn]; simp
    · split
      · exact ih ⟨h, hn⟩
      · exact List.mem_cons_of_mem _ (ih ⟨h, hn⟩)

theorem lkp_put {Γ : St} {d s : Nat} {v : SV} : lkp (Γ.put (some d) v).env s = if s = d then v else lkp Γ.env s := by
  simp only [St.put, lkp, lkp_drp]
  by_cases h : d = s
  · subst h; simp
  · have : ¬ s = d := fun e => h e.symm
    simp [h, this]

theorem mem_put {Γ : St} {d : Nat} {v : SV} {p : Nat × SV} : p ∈ (Γ.put (some d) v).env ↔ p = (d, v) ∨ (p ∈ Γ.env ∧ p.1 ≠ d) := by
  simp only [St.put, List.mem_cons, mem_drp]

/-- States that differ in the order of their slots alone. -/
structure Eqv (Γ Γ' : St) : Prop where
  n : Γ'.n = Γ.n
  fix : Γ'.fix = Γ.fix
  wr : Γ'.wr = Γ.wr
  ob : Γ'.objs = Γ.objs
  mem : ∀ p, p ∈ Γ'.env ↔ p ∈ Γ.env
  lk : ∀ s, lkp Γ'.env s = lkp Γ.env s

theorem Eqv.refl (Γ : St) : Eqv Γ Γ := ⟨rfl, rfl, rfl, rfl, fun _ => .rfl, fun _ => rfl⟩
theorem Eqv.trans {a b c : St} (h : Eqv a b) (k : Eqv b c) : Eqv a c :=
  ⟨k.n.trans h.n, k.fix.trans h.fix, k.wr.trans h.wr, k.ob.trans h.ob, fun p => (k.mem p).trans (h.mem p), fun s => (k.lk s).trans (h.lk s)⟩
theorem Eqv.symm {a b : St} (h : Eqv a b) : Eqv b a := ⟨h.n.symm, h.fix.symm, h.wr.symm, h.ob.symm, fun p => (h.mem p).symm, fun s => (h.lk s).symm⟩

theorem Eqv.put {Γ Γ' : St} (h : Eqv Γ Γ') (d : Option Nat) (v : SV) : Eqv (Γ.put d v) (Γ'.put d v) := by
  cases d with
  | none => exact h
  | some d =>
    refine ⟨h.n, h.fix, h.wr, h.ob, fun p => ?_, fun s => ?_⟩
    · rw [mem_put, mem_put, h.mem p]
    · rw [lkp_put, lkp_put, h.lk s]

theorem Eqv.setO {Γ Γ' : St} (h : Eqv Γ Γ') (os : List Ob) : Eqv (Γ.setO os) (Γ'.setO os) := ⟨h.n, h.fix, h.wr, rfl, h.mem, h.lk⟩

theorem Eqv.outs {Γ Γ' : St} (h : Eqv Γ Γ') (d : Option Nat) (v : SV) (os : List Ob) : Eqv ((Γ.setO (Γ.objs ++ os)).put d v) ((Γ'.setO (Γ'.objs ++ os)).put d v) := by
  rw [h.ob]; exact (h.setO _).put d v

theorem Eqv.comm (Γ : St) {d1 d2 : Option Nat} (hne : ∀ k, d1 = some k → d2 ≠ some k) (u v : SV) (os : List Ob) :
    Eqv (((Γ.put d1 u).setO ((Γ.put d1 u).objs ++ os)).put d2 v) (((Γ.setO (Γ.objs ++ os)).put d2 v).put d1 u) := by
  cases d1 with
  | none => exact Eqv.refl _
  | some i =>
    cases d2 with
    | none => exact Eqv.refl _
    | some j =>
      have hij : i ≠ j := fun e => hne i rfl (by rw [e])
      refine ⟨rfl, rfl, rfl, rfl, fun p => ?_, fun s => ?_⟩
      · rw [mem_put, mem_put, mem_put]
        show _ ↔ p = (j, v) ∨ (p ∈ (Γ.put (some i) u).env ∧ p.1 ≠ j)
        rw [mem_put]
        show _ ∨ ((_ ∨ p ∈ Γ.env ∧ _) ∧ _) ↔ _
        constructor
        · rintro (rfl | ⟨rfl | ⟨h1, h2⟩, h3⟩)
          · exact .inr ⟨.inl rfl, hij⟩
          · exact .inl rfl
          · exact .inr ⟨.inr ⟨h1, h3⟩, h2⟩
        · rintro (rfl | ⟨rfl | ⟨h1, h2⟩, h3⟩)
          · exact .inr ⟨.inl rfl, hij.symm⟩
          · exact .inl rfl
          · exact .inr ⟨.inr ⟨h1, h3⟩, h2⟩
      · rw [lkp_put, lkp_put, lkp_put]
        show _ = if s = j then v else lkp (Γ.put (some i) u).env s
        rw [lkp_put]
        by_cases h1 : s = i
        · subst h1; simp [hij]
        · simp [h1]; rfl

section
variable {C : Ctx} {P : Program} (hq : C.w.qcall = qcallP P) (ha : C.w.acall = acallP P)
variable {ops : Array Oper} {np : Nat}

abbrev rdyA (ops : Array Oper) (L : Array Bool) : List Nat := Region.ready .any ops L

/-- Every order of the head. -/
def anyF (C : Ctx) (ops : Array Oper) (np : Nat) : Nat → Array Bool → St → (St → Prop) → Prop
  | 0, _, _, _ => False
  | f + 1, L, Γ, K => ((∀ i ∈ rdyA ops L, np ≤ i) → K Γ) ∧
    ∀ i ∈ rdyA ops L, i < np → ∃ o, ops[i]? = some o ∧ dAt C ops.toList o Γ (fun Γ' => anyF C ops np f (L.setIfInBounds i true) Γ' K)

variable (hcl : ∀ (i : Nat) (o : Oper), i < np → ops[i]? = some o → cls C.ti o ≠ .s)

include hq ha hcl in
theorem anyF_eqv {K : St → Prop} (hK : ∀ Γ Γ', Eqv Γ Γ' → K Γ → K Γ') : ∀ (f : Nat) (L : Array Bool) (Γ Γ' : St), anyF C ops np f L Γ K → Eqv Γ Γ' → anyF C ops np f L Γ' K
  | 0, _, _, _, h, _ => h
  | f + 1, L, Γ, Γ', h, he => by
    refine ⟨fun h0 => hK _ _ he (h.1 h0), fun i hi hn => ?_⟩
    obtain ⟨o, ho, hd⟩ := h.2 i hi hn
    exact ⟨o, ho, dAt_nat hq ha (hcl i o hn ho) hd ⟨he.n, he.wr, fun s _ => he.lk s, he.ob⟩ fun v os hk => anyF_eqv hK f _ _ _ hk (he.outs _ _ _)⟩

/-- Two operations that have nothing to do with one another. -/
def Ap (ops : Array Oper) (x y : Oper) : Prop :=
  (∀ d, x.dst = some d → d ∉ y.looksAt ops) ∧ (∀ d, x.dst = some d → y.dst ≠ some d) ∧ (∀ d, y.dst = some d → d ∉ x.looksAt ops)

theorem waitsOn_iff {o : Oper} {i : Nat} : waitsOn o i = true ↔ ∃ e ∈ o.after, Region.binds .any e = true ∧ e.on = i := by
  unfold waitsOn
  rw [List.any_eq_true]
  constructor
  · rintro ⟨e, he, h⟩
    rw [Bool.and_eq_true] at h
    exact ⟨e, by simpa using he, h.1, by simpa using h.2⟩
  · rintro ⟨e, he, h1, h2⟩
    exact ⟨e, by simpa using he, by rw [h1, h2]; simp⟩

theorem not_waits {L : Array Bool} {i j : Nat} {o : Oper} (hj : j ∈ rdyA ops L) (ho : ops[j]? = some o) (hi : i ∈ rdyA ops L) : waitsOn o i = false := by
  cases hw : waitsOn o i with
  | false => rfl
  | true =>
    obtain ⟨e, he, hb, rfl⟩ := waitsOn_iff.1 hw
    obtain ⟨_, o', ho', hall⟩ := mem_ready.1 hj
    have h0 := (mem_ready.1 hi).1
    rw [ho] at ho'
    cases ho'
    have h1 := hall e he hb
    rcases Nat.lt_or_ge e.on L.size with h' | h'
    · simp [h'] at h0 h1; rw [h0] at h1; cases h1
    · simp [Array.getElem?_eq_none h'] at h1

variable (hpair : ∀ (i j : Nat) (x y : Oper), i < np → j < np → i ≠ j → ops[i]? = some x → ops[j]? = some y → isG C.ti x = true → waitsOn y i = true ∨ waitsOn x j = true ∨ Ap ops x y)

include hq ha hcl hpair in
theorem first {K : St → Prop} (hK : ∀ Γ Γ', Eqv Γ Γ' → K Γ → K Γ') {i : Nat} {oi : Oper} (hi : ops[i]? = some oi) (hin : i < np) (hg : isG C.ti oi = true) {sv : SV} : ∀ (f : Nat) (L : Array Bool) (Γ : St),
    i ∈ rdyA ops L → (∀ (Γ3 : St) (K3 : St → Prop), Agr ops oi Γ Γ3 → K3 (Γ3.put oi.dst sv) → dAt C ops.toList oi Γ3 K3) →
    anyF C ops np f (L.setIfInBounds i true) (Γ.put oi.dst sv) K → anyF C ops np (f + 1) L Γ K
  | 0, _, _, _, _, h => h.elim
  | f + 1, L, Γ, hr, hy, h => by
    refine ⟨fun h0 => absurd (h0 i hr) (Nat.not_le.2 hin), fun j hj hjn => ?_⟩
    by_cases hji : j = i
    · subst hji
      exact ⟨oi, hi, hy Γ _ ⟨rfl, rfl, fun _ _ => rfl, [], by simp⟩ h⟩
    · obtain ⟨oj, hoj, hd⟩ := h.2 j (ready_mono hj hji) hjn
      refine ⟨oj, hoj, ?_⟩
      have hap : Ap ops oi oj := by
        rcases hpair i j oi oj hin hjn (Ne.symm hji) hi hoj hg with h1 | h1 | h1
        · rw [not_waits hj hoj hr] at h1; cases h1
        · rw [not_waits hr hi hj] at h1; cases h1
        · exact h1
      have hput : ∀ (Γ : St) (d : Option Nat) (v : SV) (o : Oper), (∀ k, d = some k → k ∉ o.looksAt ops) → ∀ s ∈ o.looksAt ops, lkp (Γ.put d v).env s = lkp Γ.env s := by
        intro Γ d v o hk s hs
        cases d with
        | none => rfl
        | some k => rw [lkp_put, if_neg]; intro e; subst e; exact hk _ rfl hs
      have hn : ∀ (Γ : St) (d : Option Nat) (v : SV), (Γ.put d v).n = Γ.n ∧ (Γ.put d v).wr = Γ.wr ∧ (Γ.put d v).objs = Γ.objs := by intro Γ d v; cases d <;> exact ⟨rfl, rfl, rfl⟩
      refine dAt_nat hq ha (hcl j oj hjn hoj) hd ⟨(hn _ _ _).1.symm, (hn _ _ _).2.1.symm, fun s hs => (hput Γ oi.dst sv oj hap.1 s hs).symm, (hn _ _ _).2.2.symm⟩ fun v os hk => ?_
      refine first hK hi hin hg f _ _ (ready_mono hr (Ne.symm hji)) (fun Γ3 K3 hagr h3 => hy Γ3 K3 ⟨?_, ?_, fun s hs => ?_, ?_⟩ h3) ?_
      · rw [hagr.n, (hn _ _ _).1]; rfl
      · rw [hagr.wr, (hn _ _ _).2.1]; rfl
      · rw [hagr.lk s hs, hput _ oj.dst v oi hap.2.2 s hs]; rfl
      · obtain ⟨e, he⟩ := hagr.ob
        refine ⟨os ++ e, ?_⟩
        rw [he, (hn _ _ _).2.2]
        simp [St.setO]
      · rw [Array.setIfInBounds_comm _ _ hji]
        exact anyF_eqv hq ha hcl hK f _ _ _ hk (Eqv.comm Γ hap.2.1 sv v os)

theorem okEs_iff {L : List Bool} : ∀ {es : List Edge}, okEs L es = true ↔ ∀ e ∈ es, Region.binds .any e = true → L.getD e.on false = true
  | [] => by simp [okEs]
  | e :: r => by
    simp only [okEs, List.mem_cons, forall_eq_or_imp]
    have : okE L e = true ↔ (Region.binds .any e = true → L.getD e.on false = true) := by
      unfold okE
      cases Region.binds .any e <;> simp
    cases h : okE L e with
    | true => simp only [okEs_iff (es := r)]; exact ⟨fun h2 => ⟨this.1 h, h2⟩, fun h2 => h2.2⟩
    | false => simp only [Bool.false_eq_true, false_iff]; intro h2; have := this.2 h2.1; rw [h] at this; cases this

theorem mem_rdyL {L : List Bool} {np : Nat} {j : Nat} : ∀ {l : List Oper} {k : Nat}, j ∈ rdyL L np k l ↔ ∃ q o, j = k + q ∧ l[q]? = some o ∧ j < np ∧ L.getD j true = false ∧ okEs L o.after.toList = true
  | [], k => by simp [rdyL]
  | o :: r, k => by
    have hrec := mem_rdyL (L := L) (np := np) (j := j) (l := r) (k := k + 1)
    have hshift : (∃ q p, j = k + 1 + q ∧ r[q]? = some p ∧ j < np ∧ L.getD j true = false ∧ okEs L p.after.toList = true) ↔
        (∃ q p, q ≠ 0 ∧ j = k + q ∧ (o :: r)[q]? = some p ∧ j < np ∧ L.getD j true = false ∧ okEs L p.after.toList = true) := by
      constructor
      · rintro ⟨q, p, h1, h2, h3⟩
        exact ⟨q + 1, p, by omega, by omega, by simpa using h2, h3⟩
      · rintro ⟨q, p, h0, h1, h2, h3⟩
        obtain ⟨q, rfl⟩ : ∃ m, q = m + 1 := ⟨q - 1, by omega⟩
        exact ⟨q, p, by omega, by simpa using h2, h3⟩
    rw [hshift] at hrec
    have hall : (∃ q p, j = k + q ∧ (o :: r)[q]? = some p ∧ j < np ∧ L.getD j true = false ∧ okEs L p.after.toList = true) ↔
        ((j = k ∧ j < np ∧ L.getD j true = false ∧ okEs L o.after.toList = true) ∨ (∃ q p, q ≠ 0 ∧ j = k + q ∧ (o :: r)[q]? = some p ∧ j < np ∧ L.getD j true = false ∧ okEs L p.after.toList = true)) := by
      constructor
      · rintro ⟨q, p, h1, h2, h3⟩
        cases q with
        | zero => simp at h2; subst h2; exact .inl ⟨by omega, h3⟩
        | succ q => exact .inr ⟨q + 1, p, by omega, h1, h2, h3⟩
      · rintro (⟨h1, h2⟩ | ⟨q, p, _, h⟩)
        · exact ⟨0, o, by omega, by simp, h2⟩
        · exact ⟨q, p, h⟩
    rw [hall, ← hrec]
    simp only [rdyL]
    split
    · rename_i h1 h2
      have h1' : k < np := by simpa using h1
      split
      · rename_i h3
        rw [List.mem_cons]
        constructor
        · rintro (rfl | h)
          · exact .inl ⟨rfl, h1', h2, h3⟩
          · exact .inr h
        · rintro (⟨rfl, _⟩ | h)
          · exact .inl rfl
          · exact .inr h
      · rename_i h3
        constructor
        · exact .inr
        · rintro (⟨rfl, _, _, h⟩ | h)
          · rw [h3] at h; cases h
          · exact h
    · rename_i h1
      constructor
      · exact .inr
      · rintro (⟨rfl, h2, h3, _⟩ | h)
        · exact absurd h3 (h1 (by simpa using h2))
        · exact h

theorem rdyL_iff {l : List Oper} {L : List Bool} {np j : Nat} : j ∈ rdyL L np 0 l ↔ j < np ∧ j ∈ rdyA l.toArray L.toArray := by
  rw [mem_rdyL, mem_ready]
  have hL : ∀ k d, L.toArray.getD k d = L.getD k d := by intro k d; simp [Array.getD_eq_getD_getElem?, List.getD_eq_getElem?_getD]
  constructor
  · rintro ⟨q, o, h1, h2, h3, h4, h5⟩
    rw [Nat.zero_add] at h1
    subst h1
    refine ⟨h3, by rw [hL]; exact h4, o, by simpa using h2, fun e he hb => ?_⟩
    rw [hL]; exact okEs_iff.1 h5 e (by simpa using he) hb
  · rintro ⟨h1, h2, o, h3, h4⟩
    rw [hL] at h2
    refine ⟨j, o, by omega, by simpa using h3, h1, h2, okEs_iff.2 fun e he hb => ?_⟩
    have := h4 e (by simpa using he) hb
    rwa [hL] at this

theorem firstG_some {ti : TypeId → TI} {l : List Oper} {i : Nat} : ∀ {is : List Nat}, firstG ti l is = some i → i ∈ is ∧ ∃ o, l[i]? = some o ∧ isG ti o = true
  | [], h => by simp [firstG] at h
  | k :: r, h => by
    simp only [firstG] at h
    split at h
    · rename_i o ho
      split at h
      · rename_i hg; cases h; exact ⟨by simp, o, ho, hg⟩
      · have := firstG_some h; exact ⟨by simp [this.1], this.2⟩
    · have := firstG_some h; exact ⟨by simp [this.1], this.2⟩

theorem allOf_mem {p : Nat → Prop} : ∀ {is : List Nat}, allOf p is → ∀ i ∈ is, p i
  | [], _, i, hi => by simp at hi
  | [k], h, i, hi => by simp at hi; subst hi; exact h
  | k :: q :: r, h, i, hi => by
    rcases List.mem_cons.1 hi with rfl | hi
    · exact h.1
    · exact allOf_mem h.2 i hi

/-- What follows, in a state with its slots in another order. -/
def upTo (K : St → Prop) (Γ' : St) : Prop := ∃ Γ, Eqv Γ Γ' ∧ K Γ
theorem upTo_eqv {K : St → Prop} (Γ Γ' : St) (h : Eqv Γ Γ') : upTo K Γ → upTo K Γ' := fun ⟨Γ0, h0, hk⟩ => ⟨Γ0, h0.trans h, hk⟩

end

section
variable {C : Ctx} {P : Program} (hq : C.w.qcall = qcallP P) (ha : C.w.acall = acallP P)
variable {l : List Oper} 
variable (hcl : ∀ (i : Nat) (o : Oper), i < headLen C.ti l → l.toArray[i]? = some o → cls C.ti o ≠ .s)
variable (hpair : ∀ (i j : Nat) (x y : Oper), i < headLen C.ti l → j < headLen C.ti l → i ≠ j → l.toArray[i]? = some x → l.toArray[j]? = some y → isG C.ti x = true → waitsOn y i = true ∨ waitsOn x j = true ∨ Ap l.toArray x y)

include hq ha hcl hpair in
theorem anyF_of_anyR {K : St → Prop} : ∀ (f : Nat) (L : List Bool) (Γ : St), anyR C l f L Γ K → anyF C l.toArray (headLen C.ti l) f L.toArray Γ (upTo fun Γ => wpOs C l (l.drop (headLen C.ti l)) Γ K)
  | 0, _, _, h => h
  | f + 1, L, Γ, h => by
    simp only [anyR] at h
    have hset : ∀ i, (L.set i true).toArray = L.toArray.setIfInBounds i true := by intro i; simp
    unfold pickD at h
    cases hf : firstG C.ti l (rdyL L (headLen C.ti l) 0 l) with
    | some i =>
      rw [hf] at h
      obtain ⟨hi, o, ho, hg⟩ := firstG_some hf
      obtain ⟨hin, hr⟩ := rdyL_iff.1 hi
      simp only [allOf, ho] at h
      obtain ⟨sv, h1, h2⟩ := dAt_loc hq hg h
      have := anyF_of_anyR f _ _ h1
      rw [hset] at this
      exact first hq ha hcl hpair (fun Γ Γ' => upTo_eqv Γ Γ') (by simpa using ho) hin hg f _ _ hr h2 this
    | none =>
      rw [hf] at h
      simp only at h
      refine ⟨fun h0 => ?_, fun i hi hin => ?_⟩
      · have : rdyL L (headLen C.ti l) 0 l = [] := by
          rw [List.eq_nil_iff_forall_not_mem]
          intro j hj
          have := rdyL_iff.1 hj
          exact absurd (h0 j this.2) (Nat.not_le.2 this.1)
        rw [this] at h
        exact ⟨Γ, Eqv.refl Γ, h⟩
      · have hm : i ∈ rdyL L (headLen C.ti l) 0 l := rdyL_iff.2 ⟨hin, hi⟩
        split at h
        · rename_i he; rw [he] at hm; simp at hm
        · have := allOf_mem h i hm
          split at this
          · rename_i o ho
            refine ⟨o, by simpa using ho, ?_⟩
            refine dAt_nat hq ha (hcl i o hin (by simpa using ho)) this ⟨rfl, rfl, fun _ _ => rfl, rfl⟩ fun v os hk => ?_
            have := anyF_of_anyR f _ _ hk
            rwa [hset] at this
          · exact this.elim

variable (hback : ∀ (i : Nat) (o : Oper), l[i]? = some o → ∀ e ∈ o.after, Region.binds .any e = true → e.on < i)

include hback in
/-- The first that has not come may come. -/
theorem least_ready {L : Array Bool} {k : Nat} (hk : k < l.length) (h1 : ∀ j, j < k → L.getD j false = true) (h2 : L.getD k true = false) : k ∈ rdyA l.toArray L := by
  refine mem_ready.2 ⟨h2, l[k], by simp [hk], fun e he hb => h1 _ ?_⟩
  exact hback k l[k] (by simp [hk]) e he hb

theorem headLen_le (ti : TypeId → TI) : ∀ l : List Oper, headLen ti l ≤ l.length
  | [] => Nat.le_refl _
  | o :: r => by
    simp only [headLen]
    split
    · simp
    · simpa using headLen_le ti r

theorem headLen_s (ti : TypeId → TI) : ∀ (l : List Oper) {o : Oper} {r : List Oper}, l.drop (headLen ti l) = o :: r → cls ti o = .s
  | [], _, _, h => by simp [headLen] at h
  | p :: q, o, r, h => by
    simp only [headLen] at h
    split at h
    · rename_i hc; simp at h; rw [← h.1]; exact hc
    · simp at h; exact headLen_s ti q h

theorem headLen_ns (ti : TypeId → TI) : ∀ (l : List Oper) {i : Nat} {o : Oper}, i < headLen ti l → l[i]? = some o → cls ti o ≠ .s
  | [], i, o, h, _ => by simp [headLen] at h
  | p :: q, i, o, h, ho => by
    simp only [headLen] at h
    split at h
    · simp at h
    · rename_i hc
      cases i with
      | zero => simp at ho; subst ho; exact hc
      | succ i => exact headLen_ns ti q (show i < headLen ti q by omega) (by simpa using ho)

theorem anyA_g (ti : TypeId → TI) : ∀ (l : List Oper) {i : Nat} {o : Oper}, anyA ti l = false → i < headLen ti l → l[i]? = some o → cls ti o = .g
  | [], i, o, _, h, _ => by simp [headLen] at h
  | p :: q, i, o, ha, h, ho => by
    simp only [headLen] at h
    simp only [anyA] at ha
    split at h
    · simp at h
    · rename_i hc
      split at ha
      · cases ha
      · rename_i hs; exact absurd hs hc
      · rename_i hg
        cases i with
        | zero => simp at ho; subst ho; exact hg
        | succ i => exact anyA_g ti q ha (show i < headLen ti q by omega) (by simpa using ho)

include hq ha hcl hpair hback in
theorem anyF_of_wpD {K : St → Prop} (hA : anyA C.ti l = false) : ∀ (f k : Nat) (L : Array Bool) (Γ : St), k + f = headLen C.ti l → (∀ j, j < k → L.getD j false = true) → (∀ j, k ≤ j → j < l.length → L.getD j true = false) → L.size = l.length →
    wpD C l (l.drop k) Γ K → anyF C l.toArray (headLen C.ti l) (f + 1) L Γ (upTo fun Γ => wpOs C l (l.drop (headLen C.ti l)) Γ K)
  | 0, k, L, Γ, hkf, h1, h2, hsz, h => by
    rw [Nat.add_zero] at hkf
    rw [hkf] at h
    refine ⟨fun _ => ⟨Γ, Eqv.refl Γ, ?_⟩, fun i hi hin => ?_⟩
    · cases hd : l.drop (headLen C.ti l) with
      | nil => rw [hd] at h; exact h
      | cons o r =>
        rw [hd] at h
        have := headLen_s C.ti l hd
        simp only [wpD, this] at h
        exact h
    · have h3 := (mem_ready.1 hi).1
      have h4 := h1 i (by omega)
      have : i < L.size := by have := headLen_le C.ti l; omega
      simp [this] at h3 h4
      rw [h3] at h4; cases h4
  | f + 1, k, L, Γ, hkf, h1, h2, hsz, h => by
    have hkn : k < headLen C.ti l := by omega
    have hkl : k < l.length := by have := headLen_le C.ti l; omega
    have hdrop : l.drop k = l[k] :: l.drop (k + 1) := List.drop_eq_getElem_cons hkl
    rw [hdrop] at h
    have ho : l[k]? = some l[k] := by simp [hkl]
    have hg := anyA_g C.ti l hA hkn ho
    simp only [wpD, hg] at h
    have hig : isG C.ti l[k] = true := by unfold isG; rw [hg]
    obtain ⟨sv, h3, h4⟩ := dAt_loc hq hig h
    have hr : k ∈ rdyA l.toArray L := least_ready hback hkl h1 (h2 k (Nat.le_refl _) hkl)
    refine first hq ha hcl hpair (fun Γ Γ' => upTo_eqv Γ Γ') (by simp [hkl]) hkn hig (f + 1) _ _ hr h4 ?_
    refine anyF_of_wpD hA f (k + 1) _ _ (by omega) (fun j hj => ?_) (fun j hj hjl => ?_) (by simpa using hsz) h3
    · by_cases hjk : j = k
      · subst hjk; simp [hsz, hkl]
      · exact getD_set_true (h1 j (by omega))
    · rw [getD_set_ne true (by omega)]; exact h2 j (by omega) hjl

end
end Go.Dm

/- Regions that draw their order, in the machine. -/
namespace Go.Dm
open Go

mutual
theorem ren_okA (σ : Nat → Option Nat) : ∀ v : SV, okA v = true → ren σ v = v
  | .clo f cs, h => by simp only [okA, ren] at *; rw [rens_okA σ cs h]
  | .agg cs, h => by simp only [okA, ren] at *; rw [rens_okA σ cs h]
  | .tup cs, h => by simp only [okA, ren] at *; rw [rens_okA σ cs h]
  | .dead, h | .view _ _ _, h | .row _ _ _ _, h | .ptr _ _, h | .aaddr _ _, h | .eaddr _ _ _, h | .raddr _ _ _, h => by simp [okA] at h
  | .int _ _, _ | .bool _, _ | .str _, _ | .nilsl, _ | .fs _ _ _, _ | .faddr _ _ _, _ | .nilptr, _ | .fn _, _ => rfl
theorem rens_okA (σ : Nat → Option Nat) : ∀ vs : List SV, okAs vs = true → rens σ vs = vs
  | [], _ => rfl
  | v :: r, h => by
    simp only [okAs] at h
    split at h
    · rename_i h1
      simp only [rens]
      rw [ren_okA σ v h1, rens_okA σ r h]
    · cases h
end

theorem setOs_nil (os s : List Ob) : setOs os [] s = os ++ s := by cases s <;> rfl
theorem merge_nil (Γ : St) (os : List Ob) : merge Γ [] os = Γ.setO (Γ.objs ++ mapO (bk [] Γ.objs.length) os) := by
  unfold merge
  rw [setOs_nil]; rfl

theorem callP_of_acall {P : Program} {f : FuncId} {args : List SV} {Γ : St} {K : St → SV → Prop} (h : acallP P f args Γ K) : callP P f args Γ K := by
  obtain ⟨W, h1, h2, lend, Q, h3, h4, h5, h6⟩ := h
  refine ⟨W, h1, h2, [], lend, [], Q, h3, List.nodup_nil, by simp, ?_, fun r os hr => ?_⟩
  · show DC P f (rens (idx [] 0) (lendArgs W Γ lend [] args)) [] Q
    rw [rens_okA _ _ h4]; exact h5
  · obtain ⟨h7, h8⟩ := h6 r os hr
    exact ⟨h7, by show K (merge Γ [] os) _; rw [merge_nil]; exact h8⟩

theorem callP_of_qcall {P : Program} {f : FuncId} {args : List SV} {Γ : St} {A : SV → Prop} {K : St → SV → Prop} (hK : ∀ v, A v → K Γ v) (h : qcallP P f args Γ A) : callP P f args Γ K := by
  obtain ⟨W, h1, h2, sv, h3, h4, h5, h6, h7⟩ := h
  refine callP_of_acall ⟨W, h1, h2, true, _, h3, h4, h5, ?_⟩
  rintro r os ⟨rfl, rfl⟩
  refine ⟨fun _ => ⟨by cases r <;> simp_all [scalV, full], rfl⟩, ?_⟩
  have hr : ∀ σ, ren σ r = r := fun σ => ren_okA σ r (by cases r <;> simp_all [scalV, okA])
  rw [hr]
  show K (Γ.setO (Γ.objs ++ [])) r
  rw [setO_nil]
  exact hK _ h7

section
variable {P : Program} {ti : TypeId → TI} {own : Bool} (hti : ∀ t, (ti t).ok = true → TIok P ti t)
variable {w0 : World} {O0 : List Nat} {Z0 : Nat → Prop} {m0 : List OR} {os0 : List Ob} {m : List OR} {fpl : List (List Nat)} {Γ Γ' : St} {a : Act} {w : World} {K : St → Prop}

theorem dStep_op {o : Oper} (h : dStep (sC P ti own) o Γ K) : opStep (sC P ti own) o Γ K := by
  unfold dStep at h
  split at h
  · rename_i c ho
    split at h
    · rename_i f hc
      have : opStep (sC P ti own) o Γ K = callP P f (c.args.toList.map (rd Γ)) Γ (fun Γ' r => K (Γ'.put o.dst r)) := by
        unfold opStep
        simp only [ho, hc, rd]
        rfl
      rw [this]
      split at h
      · exact callP_of_qcall (fun v hv => hv) h
      · exact callP_of_acall h
    · exact h
  · exact h

/-- One operation under its guard, in the machine. -/
theorem gdo_op {all : List Oper} {o : Oper} {stp : St → (St → Prop) → Prop} {next : Act → World → Prop} {Q : Exit → Act → World → Prop} (h : StR w0 O0 Z0 m0 os0 Γ a w) (hs : gdo all o stp Γ K)
    (hstp : dstOk Γ.n o = true → stp Γ K → o.wp P a w next Q) (hn : ∀ a' w' Γ', K Γ' → StR w0 O0 Z0 m0 os0 Γ' a' w' → next a' w') :
    if Region.wanted o (yielded all.toArray a.tmps) then o.wp P a w next Q ∨ (o.asks P a w ∧ LetsOut Q) else next (a.put o.dst undef) w := by
  obtain ⟨m, fpl, h⟩ := h
  unfold gdo at hs
  split at hs
  · exact hs.elim
  · rename_i hdst
    have hd : ∀ k, o.dst = some k → k < Γ.n := by
      intro k hk
      unfold dstOk at hdst
      rw [hk] at hdst
      simpa using hdst
    have hgo : stp Γ K → o.wp P a w next Q ∨ (o.asks P a w ∧ LetsOut Q) := fun hs => .inl (hstp hdst hs)
    have hskip : K (Γ.put o.dst (.tup [])) → next (a.put o.dst undef) w := fun hs =>
      hn _ _ _ hs ⟨m, fpl, h.put hd (sv := .tup []) (v := undef) ⟨[], rfl, rfl⟩⟩
    split at hs
    · rename_i hg
      rw [if_pos (by simp [Region.wanted, hg])]
      exact hgo hs
    · rename_i j want hg
      split at hs
      · rename_i s hj
        rw [dstOf_eq] at hj
        have hy : yielded all.toArray a.tmps j = (match a.tmps[s]? with | some (.bool b) => some b | _ => none) := by
          unfold yielded
          have : ((all.toArray[j]?).bind (·.dst)) = some s := by simpa using hj
          rw [this]; rfl
        have hsv : SVr w (Zn w0 O0 Z0 w fpl) m Γ.objs (lkp Γ.env s) (a.tmps.getD s undef) := h.eval (.tmp s)
        have hgd : ∀ b, a.tmps.getD s undef = .bool b → a.tmps[s]? = some (.bool b) := by
          intro b hb
          rw [Array.getD_eq_getD_getElem?] at hb
          cases hx : a.tmps[s]? with
          | none => rw [hx] at hb; simp [undef] at hb
          | some v => rw [hx] at hb; simpa using hb
        split at hs
        · rename_i b hb
          rw [hb] at hsv
          have hv := hgd b hsv
          rw [hv] at hy
          cases b <;> cases want
          · rw [if_pos (by simp [Region.wanted, hg, hy])]; exact hgo hs
          · rw [if_neg (by simp [Region.wanted, hg, hy])]; exact hskip hs
          · rw [if_neg (by simp [Region.wanted, hg, hy])]; exact hskip hs
          · rw [if_pos (by simp [Region.wanted, hg, hy])]; exact hgo hs
        · rename_i hb
          rw [hb] at hsv
          obtain ⟨vs, hv, hvs⟩ := hsv
          simp only [SVrs] at hvs
          subst hvs
          have hy' : yielded all.toArray a.tmps j = none := by
            rw [hy]
            rw [Array.getD_eq_getD_getElem?] at hv
            cases hx : a.tmps[s]? with
            | none => rfl
            | some v => rw [hx] at hv; simp only [Option.getD_some] at hv; rw [hv]
          rw [if_neg (by simp [Region.wanted, hg, hy'])]
          exact hskip hs
        · exact hs.elim
      · exact hs.elim

theorem StR.eqv (h : StR w0 O0 Z0 m0 os0 Γ a w) (he : Eqv Γ' Γ) : StR w0 O0 Z0 m0 os0 Γ' a w := by
  obtain ⟨m, fpl, h⟩ := h
  obtain ⟨n, fix, wr, env, objs⟩ := Γ
  obtain ⟨n', fix', wr', env', objs'⟩ := Γ'
  obtain ⟨h1, h2, h3, h4, h5, h6⟩ := he
  simp only at h1 h2 h3 h4 h5 h6
  subst h1; subst h2; subst h3; subst h4
  exact ⟨m, fpl, h.ob, h.m0, h.o0, h.fx, h.le, h.tm, h.df, fun s sv hs => h.env s sv ((h5 _).2 hs)⟩

/-- What the checks of a region say. -/
structure DrawF (ti : TypeId → TI) (l : List Oper) : Prop where
  back : ∀ (i : Nat) (o : Oper), l[i]? = some o → ∀ e ∈ o.after, Region.binds .any e = true → e.on < i
  pair : ∀ (i j : Nat) (x y : Oper), i < headLen ti l → j < headLen ti l → i ≠ j → l.toArray[i]? = some x → l.toArray[j]? = some y → isG ti x = true → waitsOn y i = true ∨ waitsOn x j = true ∨ Ap l.toArray x y
  tail : ∀ (i : Nat) (o : Oper), headLen ti l ≤ i → l[i]? = some o → ∀ j, j < i → waitsOn o j = true

theorem allBack_spec : ∀ {l : List Oper} {k i : Nat} {o : Oper}, allBack k l = true → l[i]? = some o → ∀ e ∈ o.after, Region.binds .any e = true → e.on < k + i
  | [], _, _, _, _, h => by simp at h
  | p :: r, k, i, o, h, ho => by
    simp only [allBack, Bool.and_eq_true] at h
    cases i with
    | zero =>
      simp at ho; subst ho
      intro e he hb
      have := List.all_eq_true.1 h.1 e (by simpa using he)
      simpa [hb] using this
    | succ i =>
      intro e he hb
      have := allBack_spec h.2 (by simpa using ho) e he hb
      omega

theorem tailOk_spec : ∀ {l : List Oper} {k i : Nat} {o : Oper}, tailOk k l = true → l[i]? = some o → ∀ j, j < k + i → waitsOn o j = true
  | [], _, _, _, _, h => by simp at h
  | p :: r, k, i, o, h, ho => by
    simp only [tailOk, Bool.and_eq_true] at h
    cases i with
    | zero =>
      simp at ho; subst ho
      intro j hj
      exact List.all_eq_true.1 h.1 j (by simpa using hj)
    | succ i =>
      intro j hj
      exact tailOk_spec h.2 (by simpa using ho) j (by omega)

theorem pairsFrom_spec {ti : TypeId → TI} {ops : Array Oper} {i : Nat} {x : Oper} : ∀ {l : List Oper} {k q : Nat} {y : Oper}, pairsFrom ti ops i x k l = true → l[q]? = some y → pairOk ti ops i (k + q) x y = true
  | [], _, _, _, _, h => by simp at h
  | p :: r, k, q, y, h, hy => by
    simp only [pairsFrom, Bool.and_eq_true] at h
    cases q with
    | zero => simp at hy; subst hy; exact h.1
    | succ q =>
      have := pairsFrom_spec h.2 (q := q) (by simpa using hy)
      rwa [Nat.add_assoc, Nat.add_comm 1 q] at this

theorem headPairs_spec {ti : TypeId → TI} {ops : Array Oper} : ∀ {l : List Oper} {k p q : Nat} {x y : Oper}, headPairs ti ops k l = true → p < q → l[p]? = some x → l[q]? = some y → pairOk ti ops (k + p) (k + q) x y = true
  | [], _, _, _, _, _, _, _, h, _ => by simp at h
  | z :: r, k, p, q, x, y, h, hpq, hx, hy => by
    simp only [headPairs, Bool.and_eq_true] at h
    obtain ⟨q, rfl⟩ : ∃ m, q = m + 1 := ⟨q - 1, by omega⟩
    cases p with
    | zero =>
      simp at hx; subst hx
      have := pairsFrom_spec h.1 (q := q) (by simpa using hy)
      rw [show k + (q + 1) = k + 1 + q by omega]; exact this
    | succ p =>
      have := headPairs_spec h.2 (p := p) (q := q) (by omega) (by simpa using hx) (by simpa using hy)
      rw [show k + (p + 1) = k + 1 + p by omega, show k + (q + 1) = k + 1 + q by omega]; exact this

theorem drawF {l : List Oper} (h : drawOk ti l = true) : DrawF ti l := by
  simp only [drawOk, Bool.and_eq_true] at h
  obtain ⟨h1, h2, h3⟩ := h
  refine ⟨fun i o ho e he hb => by simpa using allBack_spec h1 ho e he hb, fun i j x y hi hj hij hx hy hg => ?_, fun i o hi ho j hj => ?_⟩
  · have hx' : (l.take (headLen ti l))[i]? = some x := by rw [List.getElem?_take, if_pos hi]; simpa using hx
    have hy' : (l.take (headLen ti l))[j]? = some y := by rw [List.getElem?_take, if_pos hj]; simpa using hy
    have fact : ∀ {p q : Nat} {u v : Oper}, pairOk ti l.toArray p q u v = true → (isG ti u = true ∨ isG ti v = true) → waitsOn v p = true ∨ waitsOn u q = true ∨ Ap l.toArray u v := by
      intro p q u v hp hg
      unfold pairOk at hp
      simp only [Bool.or_eq_true, Bool.and_eq_true, Bool.not_eq_true'] at hp
      rcases hp with hp | hp | hp | hp
      · exact .inl hp
      · exact .inr (.inl hp)
      · exact .inr (.inr (Oper.apart_spec hp))
      · rcases hg with hg | hg
        · rw [hg] at hp; simp at hp
        · rw [hg] at hp; simp at hp
    rcases Nat.lt_or_gt_of_ne hij with hlt | hlt
    · have := headPairs_spec h2 hlt hx' hy'
      rw [Nat.zero_add, Nat.zero_add] at this
      exact fact this (.inl hg)
    · have := headPairs_spec h2 hlt hy' hx'
      rw [Nat.zero_add, Nat.zero_add] at this
      rcases fact this (.inr hg) with h | h | h
      · exact .inr (.inl h)
      · exact .inl h
      · exact .inr (.inr ⟨h.2.2, fun d hd he => h.2.1 d he hd, h.1⟩)
  · have : (l.drop (headLen ti l))[i - headLen ti l]? = some o := by rw [List.getElem?_drop]; rwa [Nat.add_sub_cancel' hi]
    exact tailOk_spec h3 this j (by omega)

variable {l : List Oper} (hF : DrawF ti l) {Q : Exit → Act → World → Prop}

include hti hF in
theorem sinks (hn : ∀ a' w' Γ', K Γ' → StR w0 O0 Z0 m0 os0 Γ' a' w' → Q .normal a' w') : ∀ (q k : Nat) (L : Array Bool) (Γ : St) (a : Act) (w : World) (f : Nat), k + q = l.length → headLen ti l ≤ k → L.size = l.length → (∀ j, j < k → L.getD j false = true) →
    (∀ j, k ≤ j → j < l.length → L.getD j true = false) → wpOs (sC P ti own) l (l.drop k) Γ K → StR w0 O0 Z0 m0 os0 Γ a w → q ≤ f → wpAny P .any l.toArray Q f L a w
  | 0, k, L, Γ, a, w, f, hkq, hk, hsz, h1, h2, hs, hst, hf => by
    have hd : l.drop k = [] := List.drop_eq_nil_of_le (by omega)
    rw [hd] at hs
    have hr : Region.ready .any l.toArray L = [] := by
      rw [List.eq_nil_iff_forall_not_mem]
      intro j hj
      obtain ⟨h0, o, ho, _⟩ := mem_ready.1 hj
      have hjl : j < l.length := by simpa using (Array.getElem?_eq_some_iff.1 ho).1
      have := h1 j (by omega)
      have hjs : j < L.size := by omega
      simp [hjs] at this h0
      rw [h0] at this; cases this
    cases f with
    | zero => exact ⟨hr, hn _ _ _ hs hst⟩
    | succ f => exact ⟨fun _ => hn _ _ _ hs hst, fun i hi => by rw [hr] at hi; simp at hi⟩
  | q + 1, k, L, Γ, a, w, f, hkq, hk, hsz, h1, h2, hs, hst, hf => by
    obtain ⟨f, rfl⟩ : ∃ n, f = n + 1 := ⟨f - 1, by omega⟩
    have hkl : k < l.length := by omega
    have hr : k ∈ rdyA l.toArray L := least_ready hF.back hkl h1 (h2 k (Nat.le_refl _) hkl)
    refine ⟨fun h0 => by rw [show rdyA l.toArray L = [] from h0] at hr; simp at hr, fun i hi => ?_⟩
    have hik : i = k := by
      obtain ⟨h0, o, ho, hall⟩ := mem_ready.1 hi
      have hil : i < l.length := by simpa using (Array.getElem?_eq_some_iff.1 ho).1
      rcases Nat.lt_trichotomy i k with h | h | h
      · have := h1 i h
        have his : i < L.size := by omega
        simp [his] at this h0
        rw [h0] at this; cases this
      · exact h
      · have h3 := hF.tail i o (by omega) (by simpa using ho) k h
        rw [not_waits hi ho hr] at h3; cases h3
    subst hik
    have hdrop : l.drop i = l[i] :: l.drop (i + 1) := List.drop_eq_getElem_cons hkl
    rw [hdrop, wpOs_cons] at hs
    have ho : l.toArray[i]? = some l[i] := by simp [hkl]
    unfold wpOp
    rw [ho]
    have hnext : ∀ a' w' Γ', wpOs (sC P ti own) l (l.drop (i + 1)) Γ' K → StR w0 O0 Z0 m0 os0 Γ' a' w' → wpAny P .any l.toArray Q f (L.setIfInBounds i true) a' w' := fun a' w' Γ' hk' hst' =>
      sinks hn q (i + 1) _ Γ' a' w' f (by omega) (by omega) (by simpa using hsz) (fun j hj => by
        by_cases hji : j = i
        · subst hji; simp [hsz, hkl]
        · exact getD_set_true (h1 j (by omega))) (fun j hj hjl => by rw [getD_set_ne true (by omega)]; exact h2 j (by omega) hjl) hk' hst' (by omega)
    exact gdo_op hst hs (fun hdst h => by
      obtain ⟨m, fpl, h'⟩ := hst
      exact step_good hti h' hdst h hnext) hnext

include hti hF in
theorem mach (hn : ∀ a' w' Γ', K Γ' → StR w0 O0 Z0 m0 os0 Γ' a' w' → Q .normal a' w') : ∀ (f f0 : Nat) (L : Array Bool) (Γ : St) (a : Act) (w : World), L.size = l.length →
    (∀ j, headLen ti l ≤ j → j < l.length → L.getD j true = false) → (L.toList.take (headLen ti l)).count false + (l.length - headLen ti l) ≤ f →
    anyF (sC P ti own) l.toArray (headLen ti l) f0 L Γ (upTo fun Γ => wpOs (sC P ti own) l (l.drop (headLen ti l)) Γ K) → StR w0 O0 Z0 m0 os0 Γ a w → wpAny P .any l.toArray Q f L a w := by
  intro f
  have hle := headLen_le ti l
  have hend : ∀ (f f0 : Nat) (L : Array Bool) (Γ : St) (a : Act) (w : World), L.size = l.length →
      (∀ j, headLen ti l ≤ j → j < l.length → L.getD j true = false) → (L.toList.take (headLen ti l)).count false + (l.length - headLen ti l) ≤ f →
      anyF (sC P ti own) l.toArray (headLen ti l) f0 L Γ (upTo fun Γ => wpOs (sC P ti own) l (l.drop (headLen ti l)) Γ K) → StR w0 O0 Z0 m0 os0 Γ a w → (∀ i ∈ rdyA l.toArray L, headLen ti l ≤ i) → wpAny P .any l.toArray Q f L a w := by
    intro f f0 L Γ a w hsz h2 hf h hst hx
    have hall : ∀ k, ∀ j, j < k → j < headLen ti l → L.getD j false = true := by
      intro k
      induction k with
      | zero => intro j hj; omega
      | succ k ih =>
        intro j hj hjn
        by_cases hjk : j < k
        · exact ih j hjk hjn
        · cases hb : L.getD j false with
          | true => rfl
          | false =>
            have hjl : j < l.length := by omega
            have : j ∈ rdyA l.toArray L := least_ready hF.back hjl (fun q hq => ih q (by omega) (by omega)) (by
              have hjs : j < L.size := by omega
              simp [hjs] at hb ⊢; exact hb)
            exact absurd (hx j this) (by omega)
    cases f0 with
    | zero => exact h.elim
    | succ f0 =>
      obtain ⟨Γ0, he, hk⟩ := h.1 hx
      exact sinks hti hF hn (l.length - headLen ti l) (headLen ti l) L Γ0 a w f (by omega) (Nat.le_refl _) hsz (fun j hj => hall (j + 1) j (by omega) hj) h2 hk (hst.eqv he) (by omega)
  induction f with
  | zero =>
    intro f0 L Γ a w hsz h2 hf h hst
    refine hend 0 f0 L Γ a w hsz h2 hf h hst fun i hi => ?_
    rcases Nat.lt_or_ge i (headLen ti l) with hin | hin
    · exfalso
      have h0 := (mem_ready.1 hi).1
      have his : i < L.size := by omega
      simp [his] at h0
      have : false ∈ L.toList.take (headLen ti l) := by
        rw [List.mem_take_iff_getElem]
        exact ⟨i, by simp; omega, by simpa using h0⟩
      have := List.count_pos_iff.2 this
      omega
    · exact hin
  | succ f ih =>
    intro f0 L Γ a w hsz h2 hf h hst
    by_cases hx : ∀ i ∈ rdyA l.toArray L, headLen ti l ≤ i
    · exact hend _ f0 L Γ a w hsz h2 hf h hst hx
    · have hx' : ∃ i, i ∈ rdyA l.toArray L ∧ i < headLen ti l := by
        apply Classical.byContradiction
        intro hc
        exact hx fun i hi => by
          rcases Nat.lt_or_ge i (headLen ti l) with h | h
          · exact absurd ⟨i, hi, h⟩ hc
          · exact h
      obtain ⟨i, hi, hin⟩ := hx'
      cases f0 with
      | zero => exact h.elim
      | succ f0 =>
        refine ⟨fun h0 => by rw [show rdyA l.toArray L = [] from h0] at hi; simp at hi, fun j hj => ?_⟩
        have hjn : j < headLen ti l := by
          rcases Nat.lt_or_ge j (headLen ti l) with h | h
          · exact h
          · obtain ⟨_, o, ho, _⟩ := mem_ready.1 hj
            have h3 := hF.tail j o h (by simpa using ho) i (by omega)
            rw [not_waits hj ho hi] at h3; cases h3
        obtain ⟨o, ho, hd⟩ := h.2 j hj hjn
        have hjs : j < L.size := by omega
        have h0 : L[j] = false := by have h0 := (mem_ready.1 hj).1; simpa [hjs] using h0
        unfold wpOp
        rw [ho]
        have hnext : ∀ a' w' Γ', anyF (sC P ti own) l.toArray (headLen ti l) f0 (L.setIfInBounds j true) Γ' (upTo fun Γ => wpOs (sC P ti own) l (l.drop (headLen ti l)) Γ K) → StR w0 O0 Z0 m0 os0 Γ' a' w' → wpAny P .any l.toArray Q f (L.setIfInBounds j true) a' w' := fun a' w' Γ' hk' hst' =>
          ih f0 _ Γ' a' w' (by simpa using hsz) (fun q hq hql => by rw [getD_set_ne true (by omega)]; exact h2 q hq hql) (by
            have e : ((L.setIfInBounds j true).toList.take (headLen ti l)) = (L.toList.take (headLen ti l)).set j true := by rw [Array.toList_setIfInBounds, List.take_set]
            have hl : j < (L.toList.take (headLen ti l)).length := by simp; omega
            rw [e, List.count_set hl]
            have e2 : (L.toList.take (headLen ti l))[j] = false := by simp; exact h0
            have : 0 < (L.toList.take (headLen ti l)).count false := List.count_pos_iff.2 (e2 ▸ List.getElem_mem hl)
            rw [e2]
            simp
            omega) hk' hst'
        rw [show l.toArray.toList = l by simp] at hd
        rw [dAt_eq] at hd
        exact gdo_op hst hd (fun hdst h => by
          obtain ⟨m, fpl, h'⟩ := hst
          exact step_good hti h' hdst (dStep_op h) hnext) hnext

include hti in
theorem region_good (hm : P.follows .mixedOrders = true) {id : Nat} {ops : Array Oper} (h : StR w0 O0 Z0 m0 os0 Γ a w) (hs : wpRegion (sC P ti own) ops.toList Γ K) (hn : ∀ a' w' Γ', K Γ' → StR w0 O0 Z0 m0 os0 Γ' a' w' → Q .normal a' w') :
    (Code.region id ops true).wp P Q a w := by
  refine wp_region_any hm ?_
  have hst : StR w0 O0 Z0 m0 os0 Γ a { w with drawn := w.drawn + 1 } := by obtain ⟨m, fpl, h⟩ := h; exact ⟨m, fpl, h.drew⟩
  have hqc : (sC P ti own).w.qcall = qcallP P := rfl
  have hac : (sC P ti own).w.acall = acallP P := rfl
  generalize hl : ops.toList = l at hs
  obtain rfl : ops = l.toArray := by rw [← hl]
  have hsz : l.toArray.size = l.length := by simp
  have hle := headLen_le ti l
  have hcl : ∀ (i : Nat) (o : Oper), i < headLen ti l → l.toArray[i]? = some o → cls ti o ≠ .s := fun i o hi ho => headLen_ns ti l hi (by simpa using ho)
  have hrep : ∀ j, j < l.length → (Array.replicate l.length false).getD j true = false := by intro j hj; simp [hj]
  have hcnt : ((Array.replicate l.length false).toList.take (headLen ti l)).count false + (l.length - headLen ti l) ≤ l.length := by
    rw [Array.toList_replicate, List.take_replicate, List.count_replicate]
    simp; omega
  rw [hsz]
  unfold wpRegion at hs
  split at hs
  · rename_i hA
    obtain ⟨h1, h2⟩ := hs
    have hF : DrawF ti l := drawF h1
    exact mach hti hF hn _ _ _ Γ _ _ (by simp) (fun j _ hj => hrep j hj) hcnt (anyF_of_wpD (C := sC P ti own) hqc hac hcl hF.pair hF.back hA (headLen ti l) 0 _ Γ (by show 0 + headLen ti l = headLen ti l; omega) (fun j hj => by omega) (fun j _ hj => hrep j hj) (by simp) h2) hst
  · obtain ⟨h1, keep, Γs, h2, h3⟩ := hs
    have hF : DrawF ti l := drawF h1
    have := anyF_of_anyR (C := sC P ti own) hqc hac hcl hF.pair _ _ _ h2
    rw [show (List.replicate l.length false).toArray = Array.replicate l.length false by simp] at this
    refine mach hti hF (K := fun Γ' => gc keep Γ' = Γs) (fun a' w' Γ' hk hst' => hn a' w' Γs h3 ?_) _ _ _ Γ _ _ (by simp) (fun j _ hj => hrep j hj) hcnt this hst
    have := hst'.gc keep
    rwa [hk] at this

end
end Go.Dm
