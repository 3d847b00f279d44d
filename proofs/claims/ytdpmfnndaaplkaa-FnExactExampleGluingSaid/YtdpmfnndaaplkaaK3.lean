/- A library of the author's own and walks of the program's functions, laid together by program. -/
import Derived.Test.YtdpmfnndaaplkaaK2
import Derived.LoopN
import Derived.Test.YtdpmfnndaaplkaaProg
set_option linter.unusedVariables false
set_option linter.unusedSimpArgs false
/- Bodies. -/
namespace Go.Dm
open Go

section
variable {P : Program} {ti : TypeId → TI} {own : Bool} (hti : ∀ t, (ti t).ok = true → TIok P ti t)
variable {w0 : World} {O0 : List Nat} {Z0 : Nat → Prop} {m0 : List OR} {os0 : List Ob} {m : List OR} {fpl : List (List Nat)} {Γ Γ' : St} {a : Act} {w : World} {K : St → Prop}

include hti in
theorem wpOs_good {all : List Oper} {Q : Exit → Act → World → Prop} : ∀ {ops : List Oper} {Γ : St} {K : St → Prop} {a : Act} {w : World}, StR w0 O0 Z0 m0 os0 Γ a w → wpOs (sC P ti own) all ops Γ K →
    (∀ a' w' Γ', K Γ' → StR w0 O0 Z0 m0 os0 Γ' a' w' → Q .normal a' w') → wpList P all.toArray Q ops a w
  | [], Γ, K, a, w, h, hs, hn => wpList_nil (hn _ _ _ hs h)
  | o :: r, Γ, K, a, w, h, hs, hn => by
    obtain ⟨m, fpl, h⟩ := h
    simp only [wpOs] at hs
    split at hs
    · exact hs.elim
    · rename_i hdst
      have hd : ∀ k, o.dst = some k → k < Γ.n := by
        intro k hk
        unfold dstOk at hdst
        rw [hk] at hdst
        simpa using hdst
      refine wpList_step fun K' hK' => ?_
      have hgo : opStep (sC P ti own) o Γ (fun Γ' => wpOs (sC P ti own) all r Γ' K) → o.wp P a w K' Q := fun hs =>
        step_good hti h hdst hs fun a' w' Γ' hk hst => hK' _ _ (wpOs_good hst hk hn)
      have hskip : wpOs (sC P ti own) all r (Γ.put o.dst (.tup [])) K → K' (a.put o.dst undef) w := fun hs =>
        hK' _ _ (wpOs_good ⟨m, fpl, h.put hd (sv := .tup []) (v := undef) ⟨[], rfl, rfl⟩⟩ hs hn)
      split at hs
      · rename_i hg
        rw [if_pos (by simp [Region.wanted, hg])]
        exact hgo hs
      · rename_i j want hg
        split at hs
        · rename_i s hj
          rw [dstOf_eq] at hj
          have hy : yielded all.toArray a.tmps j = (match a.tmps[s]? with | some (.bool b) => some b | _ => none) := by
            unfold yielded
            have : ((all.toArray[j]?).bind (·.dst)) = some s := by simpa using hj
            rw [this]; rfl
          have hsv : SVr w (Zn w0 O0 Z0 w fpl) m Γ.objs (lkp Γ.env s) (a.tmps.getD s undef) := h.eval (.tmp s)
          have hgd : ∀ b, a.tmps.getD s undef = .bool b → a.tmps[s]? = some (.bool b) := by
            intro b hb
            rw [Array.getD_eq_getD_getElem?] at hb
            cases hx : a.tmps[s]? with
            | none => rw [hx] at hb; simp [undef] at hb
            | some v => rw [hx] at hb; simpa using hb
          split at hs
          · rename_i b hb
            rw [hb] at hsv
            have hv := hgd b hsv
            rw [hv] at hy
            cases b <;> cases want
            · rw [if_pos (by simp [Region.wanted, hg, hy])]; exact hgo hs
            · rw [if_neg (by simp [Region.wanted, hg, hy])]; exact hskip hs
            · rw [if_neg (by simp [Region.wanted, hg, hy])]; exact hskip hs
            · rw [if_pos (by simp [Region.wanted, hg, hy])]; exact hgo hs
          · rename_i hb
            rw [hb] at hsv
            obtain ⟨vs, hv, hvs⟩ := hsv
            simp only [SVrs] at hvs
            subst hvs
            have hy' : yielded all.toArray a.tmps j = none := by
              rw [hy]
              rw [Array.getD_eq_getD_getElem?] at hv
              cases hx : a.tmps[s]? with
              | none => rfl
              | some v => rw [hx] at hv; simp only [Option.getD_some] at hv; rw [hv]
            rw [if_neg (by simp [Region.wanted, hg, hy'])]
            exact hskip hs
          · exact hs.elim
        · exact hs.elim

/-- What is asked at an exit. -/
def QE (w0 : World) (O0 : List Nat) (Z0 : Nat → Prop) (m0 : List OR) (os0 : List Ob) (Q : Ex → St → Prop) : Exit → Act → World → Prop
  | .normal, a, w => ∃ Γ, Q .normal Γ ∧ StR w0 O0 Z0 m0 os0 Γ a w
  | .exit id, a, w => ∃ Γ, Q (.exit id) Γ ∧ StR w0 O0 Z0 m0 os0 Γ a w
  | .ret, a, w => ∃ Γ, Q .ret Γ ∧ StR w0 O0 Z0 m0 os0 Γ a w
  | _, _, _ => False

theorem least {p : Nat → Prop} (h : ∃ n, p n) : ∃ n, p n ∧ ∀ k, p k → n ≤ k := by
  obtain ⟨n, hn⟩ := h
  induction n using Nat.strongRecOn with
  | _ n ih =>
    by_cases hx : ∃ k, k < n ∧ p k
    · obtain ⟨k, hk, hp⟩ := hx
      exact ih k hk hp
    · exact ⟨n, hn, fun k hk => by
        rcases Nat.lt_or_ge k n with h1 | h1
        · exact absurd ⟨k, h1, hk⟩ hx
        · exact h1⟩

include hti in
theorem wpC_good (hmix : P.follows .mixedOrders = true) : ∀ (c : Code) {Γ : St} {Q : Ex → St → Prop} {a : Act} {w : World}, StR w0 O0 Z0 m0 os0 Γ a w → wpC (sC P ti own) c Γ Q → c.wp P (QE w0 O0 Z0 m0 os0 Q) a w
  | .skip, Γ, Q, a, w, h, hs => wp_skip ⟨Γ, hs, h⟩
  | .exit id, Γ, Q, a, w, h, hs => wp_exit ⟨Γ, hs, h⟩
  | .ret, Γ, Q, a, w, h, hs => wp_ret ⟨Γ, hs, h⟩
  | .seq x y, Γ, Q, a, w, h, hs => by
    refine wp_seq (Code.wp_mono (fun e a' w' hq => ?_) (wpC_good hmix x h hs))
    cases e with
    | normal => obtain ⟨Γ', h1, h2⟩ := hq; exact wpC_good hmix y h2 h1
    | exit id => exact hq
    | ret => exact hq
    | _ => exact hq
  | .cond c x y, Γ, Q, a, w, h, hs => by
    simp only [wpC] at hs
    split at hs
    · rename_i b hb
      obtain ⟨m, fpl, h'⟩ := h
      have hv := h'.eval c
      rw [hb] at hv
      cases b with
      | true => exact wp_cond_true hv (wpC_good hmix x ⟨m, fpl, h'⟩ hs)
      | false => exact wp_cond_false hv (wpC_good hmix y ⟨m, fpl, h'⟩ hs)
    · exact hs.elim
  | .block id c, Γ, Q, a, w, h, hs => by
    refine wp_block (Code.wp_mono (fun e a' w' hq => ?_) (wpC_good hmix c h hs))
    cases e with
    | normal => exact hq
    | exit i =>
      obtain ⟨Γ', h1, h2⟩ := hq
      simp only [blkK] at h1
      simp only [Exit.inBlock]
      split
      · rename_i hi
        rw [if_pos hi] at h1
        exact ⟨Γ', h1, h2⟩
      · rename_i hi
        rw [if_neg hi] at h1
        exact ⟨Γ', h1, h2⟩
    | ret => exact hq
    | _ => exact hq
  | .loop c, Γ, Q, a, w, h, hs => by
    have hs' : loopP (wpC (sC P ti own) c) Γ Q := hs
    rcases hs' with ⟨S, keep, enc, I, μ, s0, h0, hI0, hround⟩ | ⟨n, hs'⟩
    · have hex : ∀ a w, (∃ s, I s ∧ StR w0 O0 Z0 m0 os0 (enc s) a w) → ∃ n, ∃ s, I s ∧ StR w0 O0 Z0 m0 os0 (enc s) a w ∧ μ s = n := fun a w ⟨s, h1, h2⟩ => ⟨_, s, h1, h2, rfl⟩
      have hmin : ∃ M : Act → World → Nat, ∀ a w, (∃ s, I s ∧ StR w0 O0 Z0 m0 os0 (enc s) a w) → (∃ s, I s ∧ StR w0 O0 Z0 m0 os0 (enc s) a w ∧ μ s = M a w) ∧ ∀ s, I s → StR w0 O0 Z0 m0 os0 (enc s) a w → M a w ≤ μ s := by
        classical
        refine ⟨fun a w => if hx : ∃ s, I s ∧ StR w0 O0 Z0 m0 os0 (enc s) a w then Classical.choose (least (hex a w hx)) else 0, fun a w hx => ?_⟩
        simp only [dif_pos hx]
        have hsp := Classical.choose_spec (least (hex a w hx))
        exact ⟨hsp.1, fun s h1 h2 => hsp.2 _ ⟨s, h1, h2, rfl⟩⟩
      obtain ⟨M, hM⟩ := hmin
      refine wp_loop (fun a w => ∃ s, I s ∧ StR w0 O0 Z0 m0 os0 (enc s) a w) M ⟨s0, hI0, h0 ▸ h.gc keep⟩ fun a w hI => ?_
      obtain ⟨⟨s1, h1, h2, h3⟩, _⟩ := hM a w hI
      refine Code.wp_mono (fun e a' w' hq => ?_) (wpC_good hmix c h2 (hround s1 h1))
      cases e with
      | normal =>
        obtain ⟨Γ', ⟨s', h4, h5, h6⟩, h7⟩ := hq
        have h8 := h7.gc keep
        rw [h4] at h8
        have hI' : ∃ s, I s ∧ StR w0 O0 Z0 m0 os0 (enc s) a' w' := ⟨s', h5, h8⟩
        exact ⟨hI', by have := (hM a' w' hI').2 _ h5 h8; omega⟩
      | exit id => exact hq
      | ret => exact hq
      | _ => exact hq
    · clear hs
      refine wp_loop_rounds n ?_
      induction n generalizing Γ a w with
      | zero => exact hs'.elim
      | succ n ih =>
        refine Code.wp_mono (fun e a' w' hq => ?_) (wpC_good hmix c h hs')
        cases e with
        | normal => obtain ⟨Γ', h1, h2⟩ := hq; exact ih _ _ _ h2 h1
        | exit id => exact hq
        | ret => exact hq
        | _ => exact hq
  | .region id ops false, Γ, Q, a, w, h, hs => by
    refine wp_region_list ?_
    have := wpOs_good hti (all := ops.toList) (Q := QE w0 O0 Z0 m0 os0 Q) h hs (fun a' w' Γ' hk hst => ⟨Γ', hk, hst⟩)
    simpa using this
  | .region id ops true, Γ, Q, a, w, h, hs => region_good hti hmix h hs (fun a' w' Γ' hk hst => ⟨Γ', hk, hst⟩)
  | .rangeFunc _ _ _ _, _, _, _, _, _, hs => hs.elim
  | .scope _, _, _, _, _, _, hs => hs.elim
  | .label _, _, _, _, _, _, hs => hs.elim
  | .goto _, _, _, _, _, _, hs => hs.elim
  | .refuse _, _, _, _, _, _, hs => hs.elim

/-- The slots at the start. -/
def envIn : Nat → List SV → List (Nat × SV)
  | _, [] => []
  | k, v :: r => (k, v) :: envIn (k + 1) r
def tmpsOnly : List ResultVar → Bool
  | [] => true
  | .tmp _ :: r => tmpsOnly r
  | _ :: _ => false
def St.init (n : Nat) (wr : Bool) (args : List SV) (objs : List Ob) : St := ⟨n, objs.length, wr, envIn 0 args, objs⟩

theorem envIn_mem {Z : Nat → Prop} {objs : List Ob} {s : Nat} {sv : SV} : ∀ {args : List SV} {vs : List Value} {k : Nat}, SVrs w Z m objs args vs → (s, sv) ∈ envIn k args → ∃ j v, s = k + j ∧ vs[j]? = some v ∧ SVr w Z m objs sv v
  | [], vs, k, _, h => by simp [envIn] at h
  | x :: r, vs, k, hv, h => by
    simp only [SVrs] at hv
    obtain ⟨v, vs', rfl, h1, h2⟩ := hv
    simp only [envIn, List.mem_cons] at h
    rcases h with h | h
    · cases h; exact ⟨0, v, rfl, rfl, h1⟩
    · obtain ⟨j, u, h3, h4, h5⟩ := envIn_mem h2 h
      exact ⟨j + 1, u, by omega, by simpa using h4, h5⟩

theorem resVs_r {C : Ctx} (h : SR w0 O0 Z0 m0 os0 m fpl Γ a w) : ∀ {rs : List ResultVar}, tmpsOnly rs = true →
    ∃ vs : List Value, (∀ g : ResultVar → Sem Value, (∀ t, g (.tmp t) = pure (a.tmps.getD t undef)) → (rs.mapM g : Sem (List Value)).run P w = .ok vs w) ∧ SVrs w (Zn w0 O0 Z0 w fpl) m Γ.objs (resVs C Γ rs) vs
  | [], _ => ⟨[], fun g _ => by simp, rfl⟩
  | .tmp t :: r, hr => by
    obtain ⟨vs, h1, h2⟩ := resVs_r h (rs := r) hr
    refine ⟨a.tmps.getD t undef :: vs, fun g hg => ?_, _, _, rfl, h.eval (.tmp t), h2⟩
    simp only [List.mapM_cons, Sem.run_bind, hg, Sem.run_pure, Result.andThen_ok, h1 g hg]
  | .cell _ _ :: _, hr => by simp [tmpsOnly] at hr

theorem res_r {C : Ctx} (h : SR w0 O0 Z0 m0 os0 m fpl Γ a w) {fn : Func} (hr : tmpsOnly fn.results.toList = true) :
    ∃ v, (results fn a.tmps).run P w = .ok v w ∧ SVr w (Zn w0 O0 Z0 w fpl) m Γ.objs (resOf C Γ fn.results.toList) v := by
  obtain ⟨vs, h1, h2⟩ := resVs_r (P := P) (C := C) h hr
  have h3 : (results fn a.tmps).run P w = .ok (if h : vs.toArray.size = 1 then vs.toArray[0] else .tuple vs.toArray) w := by
    unfold results
    simp only [Array.mapM_eq_mapM_toList, Sem.run_bind, map_eq_pure_bind, Sem.run_pure]
    rw [h1 _ (fun t => rfl)]
    simp only [Result.andThen_ok, Sem.run_pure]
  refine ⟨_, h3, ?_⟩
  unfold resOf
  generalize resVs C Γ fn.results.toList = svs at h2
  split
  · rename_i sv
    simp only [SVrs] at h2
    obtain ⟨v, vs', rfl, h4, rfl⟩ := h2
    simpa using h4
  · rename_i hne
    have hl := h2.length
    rw [dif_neg (by
      intro hs1
      have : svs.length = 1 := by rw [← hl]; simpa using hs1
      obtain ⟨x, hx⟩ := List.length_eq_one_iff.1 this
      exact hne x hx)]
    exact ⟨vs, rfl, h2⟩

include hti in
/-- A function's contract. -/
theorem dc_of {f : FuncId} {fn : Func} {c : Code} {args : List SV} {objs : List Ob} {Q : SV → List Ob → Prop} (wr : Bool) (hmix : P.follows .mixedOrders = true) (hf : P.funcs[f]? = some fn) (hb : fn.body = some c) (hr : tmpsOnly fn.results.toList = true)
    (h : wpC (sC P ti own) c (St.init (args.length + (fn.ntmps - args.length)) wr args objs) (fin (sC P ti own) fn.results.toList Q)) : DC P f args objs Q := by
  intro w vs Z m fpl hZ hobs hargs
  have hvl := hargs.length
  have hinit : StR w fpl.flatten Z m objs (St.init (args.length + (fn.ntmps - args.length)) wr args objs) { tmps := vs.toArray ++ Array.replicate (fn.ntmps - vs.toArray.size) undef, defers := [] } w := by
    refine ⟨m, fpl, hobs, ?_, rfl, Nat.le_refl _, fun i _ => ObLe.refl _, ?_, rfl, fun s sv hs => ?_⟩
    · show m.take objs.length = m
      rw [← hobs.ml, List.take_length]
    · simp [St.init, hvl]
    · obtain ⟨j, v, h1, h2, h3⟩ := envIn_mem hargs hs
      rw [Nat.zero_add] at h1
      subst h1
      have : (vs.toArray ++ Array.replicate (fn.ntmps - vs.toArray.size) undef).getD s undef = v := by
        have hlt := (List.getElem?_eq_some_iff.1 h2).1
        rw [Array.getD_eq_getD_getElem?, Array.getElem?_append_left (by simpa using hlt)]
        simp [h2]
      show SVr _ _ _ _ sv ((vs.toArray ++ Array.replicate (fn.ntmps - vs.toArray.size) undef).getD s undef)
      rw [this]; exact h3
  have hend : ∀ a' w' Γ', finW (Γ'.sig [resOf (sC P ti own) Γ' fn.results.toList]) (resOf (sC P ti own) Γ' fn.results.toList) Γ' Q → StR w fpl.flatten Z m objs Γ' a' w' → a'.defers = [] ∧ ∃ v, (results fn a'.tmps).run P w' = .ok v w' ∧
      (∃ v1 r objs' m' fpl', Ending.returned v = .returned v1 ∧ Q r objs' ∧ ObsR w fpl.flatten Z m' fpl' objs' w' ∧ m'.take objs.length = m ∧
        objs.length ≤ objs'.length ∧ (∀ i, i < objs.length → ObLe (ogt objs i) (ogt objs' i)) ∧ SVr w' (Zn w fpl.flatten Z w' fpl') m' objs' r v1) := by
    rintro a' w' Γ' hq ⟨m1, fpl1, hst⟩
    obtain ⟨v, h1, h2⟩ := res_r (P := P) (C := sC P ti own) hst hr
    obtain ⟨h3, h4⟩ := sig_ok Γ' [resOf (sC P ti own) Γ' fn.results.toList]
    obtain ⟨m', fpl', h5, h6⟩ := hst.gc h3 h4 []
    refine ⟨hst.df, v, h1, v, _, _, m', fpl', rfl, hq, h5.ob, ?_, ?_, ?_, h6 _ _ h2⟩
    · rw [hst.o0]; exact h5.m0
    · rw [hst.o0]; exact h5.fx
    · intro i hi
      rw [hst.o0] at hi
      exact h5.le i hi
  refine calls_of_wp hf hb (Code.wp_mono (fun e a' w' hq => ?_) (wpC_good hti hmix c hinit h))
  cases e with
  | normal => obtain ⟨Γ', h1, h2⟩ := hq; exact hend a' w' Γ' h1 h2
  | ret => obtain ⟨Γ', h1, h2⟩ := hq; exact hend a' w' Γ' h1 h2
  | exit id => obtain ⟨Γ', h1, _⟩ := hq; exact h1.elim
  | goto l => exact hq.elim
  | panic ch => exact hq.elim
  | outgrown => exact hq.elim


include hti in
/-- The same, for a walk: the words and what is asked are variables. -/
theorem dc_go {f : FuncId} {fn : Func} {c : Code} {args : List SV} {objs : List Ob} {Q : SV → List Ob → Prop} (wr : Bool) (hmix : P.follows .mixedOrders = true) (hf : P.funcs[f]? = some fn) (hb : fn.body = some c) (hr : tmpsOnly fn.results.toList = true)
    (h : ∀ W, stdW P = W → ∀ Q' : SV → List Ob → Prop, (∀ r os, Q r os → Q' r os) → wpC ⟨W, ti, own⟩ c (St.init (args.length + (fn.ntmps - args.length)) wr args objs) (fin ⟨W, ti, own⟩ fn.results.toList Q')) : DC P f args objs Q :=
  dc_of hti (own := own) wr hmix hf hb hr (h _ rfl Q fun _ _ h => h)

end
end Go.Dm

/- Rows of the type table. -/
namespace Go.Dm
open Go

def rInt (k : IntKind) (bytes : Nat) : TI := ⟨true, 1, false, bytes, some (.int k), [.int k 0], none, [], none, none⟩
def rBool : TI := ⟨true, 1, false, 1, some .bool, [.bool false], none, [], none, none⟩
def rStr : TI := ⟨true, 1, false, 16, some .str, [.string ⟨#[]⟩], none, [], none, none⟩
def rSl (e : TypeId) (y : Option Ty) : TI := ⟨true, 1, false, 24, y.map (.sl e), [.slice none 0 0], some e, [], none, none⟩
def rOne (bytes : Nat) (z : Value) : TI := ⟨true, 1, false, bytes, none, [z], none, [], none, none⟩
def rSt (sz bytes : Nat) (flds : List (Nat × TypeId)) (y : Option Ty) (zv : List Value) : TI := ⟨true, sz, true, bytes, y, zv, none, flds, none, none⟩
def rArr (n : Nat) (e : TypeId) (es sz bytes : Nat) (y : Option Ty) (av : Option Ty) (zv : List Value) : TI := ⟨true, sz, true, bytes, y, zv, none, [], some (n, e, es), av⟩

section
variable {P : Program} {ti : TypeId → TI} {t : TypeId} {i : TypeInfo}

theorem ok_int {k : IntKind} {b : Nat} (hi : P.info? t = some i) (hu : P.underlying t = some (.int k)) (hz : i.zero = some (.int k 0)) (hs : i.size = 1) (hb : i.bytes = b) (hr : ti t = rInt k b) : TIok P ti t where
  sz := by rw [hi, hr]; simp [hs, rInt]
  bytes := by rw [hi, hr]; simp [hb, rInt]
  zero := ⟨i, _, hi, hz, by rw [hr]; rfl, .inl rfl⟩
  zl := by rw [hr]; rfl
  st := fun fs h => by rw [hu] at h; cases h
  und := ⟨_, hu, by rw [hr]; rfl⟩
  one := fun _ => by rw [hr]; rfl
  sl := fun e h => by rw [hr] at h; cases h
  arr := fun _ _ _ h => by rw [hr] at h; cases h
  flds := fun _ _ _ h => by rw [hr] at h; simp [rInt] at h
  ty := fun y h => by rw [hr] at h ⊢; cases h; exact ⟨rfl, rfl⟩
  av := fun y h => by rw [hr] at h; cases h
  int := fun k' h => by rw [hr] at h; cases h; exact hu
  bool := fun h => by rw [hr] at h; cases h
  str := fun h => by rw [hr] at h; cases h

theorem ok_bool (hi : P.info? t = some i) (hu : P.underlying t = some .bool) (hz : i.zero = some (.bool false)) (hs : i.size = 1) (hb : i.bytes = 1) (hr : ti t = rBool) : TIok P ti t where
  sz := by rw [hi, hr]; simp [hs, rBool]
  bytes := by rw [hi, hr]; simp [hb, rBool]
  zero := ⟨i, _, hi, hz, by rw [hr]; rfl, .inl rfl⟩
  zl := by rw [hr]; rfl
  st := fun fs h => by rw [hu] at h; cases h
  und := ⟨_, hu, by rw [hr]; rfl⟩
  one := fun _ => by rw [hr]; rfl
  sl := fun e h => by rw [hr] at h; cases h
  arr := fun _ _ _ h => by rw [hr] at h; cases h
  flds := fun _ _ _ h => by rw [hr] at h; simp [rBool] at h
  ty := fun y h => by rw [hr] at h ⊢; cases h; exact ⟨rfl, rfl⟩
  av := fun y h => by rw [hr] at h; cases h
  int := fun k' h => by rw [hr] at h; cases h
  bool := fun h => hu
  str := fun h => by rw [hr] at h; cases h

theorem ok_str (hi : P.info? t = some i) (hu : P.underlying t = some .string) (hz : i.zero = some (.string ⟨#[]⟩)) (hs : i.size = 1) (hb : i.bytes = 16) (hr : ti t = rStr) : TIok P ti t where
  sz := by rw [hi, hr]; simp [hs, rStr]
  bytes := by rw [hi, hr]; simp [hb, rStr]
  zero := ⟨i, _, hi, hz, by rw [hr]; rfl, .inl rfl⟩
  zl := by rw [hr]; rfl
  st := fun fs h => by rw [hu] at h; cases h
  und := ⟨_, hu, by rw [hr]; rfl⟩
  one := fun _ => by rw [hr]; rfl
  sl := fun e h => by rw [hr] at h; cases h
  arr := fun _ _ _ h => by rw [hr] at h; cases h
  flds := fun _ _ _ h => by rw [hr] at h; simp [rStr] at h
  ty := fun y h => by rw [hr] at h ⊢; cases h; exact ⟨rfl, rfl⟩
  av := fun y h => by rw [hr] at h; cases h
  int := fun k' h => by rw [hr] at h; cases h
  bool := fun h => by rw [hr] at h; cases h
  str := fun h => hu

theorem ok_sl {e : TypeId} {y : Option Ty} (hi : P.info? t = some i) (hu : P.underlying t = some (.slice e)) (hz : i.zero = some (.slice none 0 0)) (hs : i.size = 1) (hb : i.bytes = 24) (hr : ti t = rSl e y) (he : (ti e).ok = true) : TIok P ti t where
  sz := by rw [hi, hr]; simp [hs, rSl]
  bytes := by rw [hi, hr]; simp [hb, rSl]
  zero := ⟨i, _, hi, hz, by rw [hr]; rfl, .inl rfl⟩
  zl := by rw [hr]; rfl
  st := fun fs h => by rw [hu] at h; cases h
  und := ⟨_, hu, by rw [hr]; rfl⟩
  one := fun _ => by rw [hr]; rfl
  sl := fun e' h => by rw [hr] at h; cases h; exact ⟨hu, he⟩
  arr := fun _ _ _ h => by rw [hr] at h; cases h
  flds := fun _ _ _ h => by rw [hr] at h; simp [rSl] at h
  ty := fun y' h => by
    rw [hr] at h ⊢
    cases y with
    | none => cases h
    | some y => cases h; exact ⟨rfl, rfl⟩
  av := fun y h => by rw [hr] at h; cases h
  int := fun k' h => by rw [hr] at h; cases y <;> cases h
  bool := fun h => by rw [hr] at h; cases y <;> cases h
  str := fun h => by rw [hr] at h; cases y <;> cases h

/-- Pointers, functions, maps: nothing is known but that they take one cell. -/
theorem ok_one {d : TypeDesc} {b : Nat} {z : Value} (hi : P.info? t = some i) (hu : P.underlying t = some d) (hd : (∀ fs, d ≠ .struct fs) ∧ ∀ n e, d ≠ .array n e) (hz : i.zero = some z) (hz1 : z.oneCell' = true) (hs : i.size = 1) (hb : i.bytes = b) (hr : ti t = rOne b z) : TIok P ti t where
  sz := by rw [hi, hr]; simp [hs, rOne]
  bytes := by rw [hi, hr]; simp [hb, rOne]
  zero := ⟨i, _, hi, hz, by rw [hr, one_cells hz1]; rfl, .inl hz1⟩
  zl := by rw [hr]; rfl
  st := fun fs h => by rw [hu] at h; cases h; exact absurd rfl (hd.1 _)
  und := ⟨_, hu, by
    rw [hr]
    cases d with
    | struct fs => exact absurd rfl (hd.1 _)
    | array n e => exact absurd rfl (hd.2 _ _)
    | _ => rfl⟩
  one := fun _ => by rw [hr]; rfl
  sl := fun e h => by rw [hr] at h; cases h
  arr := fun _ _ _ h => by rw [hr] at h; cases h
  flds := fun _ _ _ h => by rw [hr] at h; simp [rOne] at h
  ty := fun y h => by rw [hr] at h; cases h
  av := fun y h => by rw [hr] at h; cases h
  int := fun k' h => by rw [hr] at h; cases h
  bool := fun h => by rw [hr] at h; cases h
  str := fun h => by rw [hr] at h; cases h


theorem ok_st {fs : Array Field} {sz b : Nat} {flds : List (Nat × TypeId)} {y : Option Ty} {vs : List Value} (hi : P.info? t = some i) (hu : P.underlying t = some (.struct fs)) (hz : i.zero = some (.agg vs.toArray))
    (hs : i.size = sz) (hb : i.bytes = b) (hr : ti t = rSt sz b flds y vs) (hl : vs.length = sz)
    (hf : ∀ (f : Nat) (o : Nat) (ft : TypeId), flds[f]? = some (o, ft) → ∃ fd, fs[f]? = some fd ∧ fd.offset = o ∧ fd.type = ft ∧ (ti ft).ok = true ∧ (ti ft).sz ≠ 0)
    (hst : fs.toList.mapM (fun f => (P.info? f.type).map fun i => (f.offset, i.size)) = some (flds.map fun p => (p.1, (ti p.2).sz)))
    (hy : ∀ y', y = some y' → vs = y'.zv ∧ sz = y'.size ∧ (∀ k, y' ≠ .int k) ∧ y' ≠ .bool ∧ y' ≠ .str) : TIok P ti t where
  sz := by rw [hi, hr]; simp [hs, rSt]
  bytes := by rw [hi, hr]; simp [hb, rSt]
  zero := ⟨i, _, hi, hz, by rw [hr]; simp [rSt, Value.cells], .inr ⟨_, rfl⟩⟩
  zl := by rw [hr]; exact hl
  st := fun fs' h => by rw [hu] at h; cases h; rw [hr]; exact hst
  und := ⟨_, hu, by rw [hr]; rfl⟩
  one := fun h => by rw [hr] at h; cases h
  sl := fun e h => by rw [hr] at h; cases h
  arr := fun _ _ _ h => by rw [hr] at h; cases h
  flds := fun f o ft h => by
    rw [hr] at h
    obtain ⟨fd, h1, h2⟩ := hf f o ft h
    exact ⟨fs, fd, hu, h1, h2⟩
  ty := fun y' h => by rw [hr] at h ⊢; exact ⟨(hy y' h).1, (hy y' h).2.1⟩
  av := fun y h => by rw [hr] at h; cases h
  int := fun k' h => by rw [hr] at h; exact absurd rfl ((hy _ h).2.2.1 k')
  bool := fun h => by rw [hr] at h; exact absurd rfl ((hy _ h).2.2.2.1)
  str := fun h => by rw [hr] at h; exact absurd rfl ((hy _ h).2.2.2.2)

theorem ok_arr {n : Nat} {e : TypeId} {es sz b : Nat} {y av : Option Ty} {vs : List Value} (hi : P.info? t = some i) (hu : P.underlying t = some (.array n e)) (hz : i.zero = some (.agg vs.toArray))
    (hs : i.size = sz) (hb : i.bytes = b) (hr : ti t = rArr n e es sz b y av vs) (hl : vs.length = sz) (he : (ti e).ok = true) (hes : (ti e).sz = es)
    (hy : ∀ y', y = some y' → vs = y'.zv ∧ sz = y'.size ∧ (∀ k, y' ≠ .int k) ∧ y' ≠ .bool ∧ y' ≠ .str)
    (hav : ∀ y', av = some y' → y'.size = 1 ∧ y'.flat = true ∧ ∃ v, y'.zv = [v] ∧ vs = List.replicate sz v) : TIok P ti t where
  sz := by rw [hi, hr]; simp [hs, rArr]
  bytes := by rw [hi, hr]; simp [hb, rArr]
  zero := ⟨i, _, hi, hz, by rw [hr]; simp [rArr, Value.cells], .inr ⟨_, rfl⟩⟩
  zl := by rw [hr]; exact hl
  st := fun fs' h => by rw [hu] at h; cases h
  und := ⟨_, hu, by rw [hr]; rfl⟩
  one := fun h => by rw [hr] at h; cases h
  sl := fun e h => by rw [hr] at h; cases h
  arr := fun n' e' s' h => by rw [hr] at h; cases h; exact ⟨hu, he, hes⟩
  flds := fun _ _ _ h => by rw [hr] at h; simp [rArr] at h
  ty := fun y' h => by rw [hr] at h ⊢; exact ⟨(hy y' h).1, (hy y' h).2.1⟩
  av := fun y' h => by rw [hr] at h ⊢; exact hav y' h
  int := fun k' h => by rw [hr] at h; exact absurd rfl ((hy _ h).2.2.1 k')
  bool := fun h => by rw [hr] at h; exact absurd rfl ((hy _ h).2.2.2.1)
  str := fun h => by rw [hr] at h; exact absurd rfl ((hy _ h).2.2.2.2)

end
end Go.Dm

/- The type table of the seat. -/
namespace Go.Proofs.Ytdpmfnndaaplkaa
open Go Go.Dm Go.Proofs
def tbl0 : List TI := [
  default,
  rOne 8 (Value.nilFunc),
  rInt .i64 8,
  rInt .i64 8,
  rBool,
  rInt .u8 1,
  rInt .u8 1,
  rSt 4 24 [(0, 2), (1, 3), (2, 4), (3, 6)] (some (.pair (.int .i64) (.pair (.int .i64) (.pair .bool (.int .u8))))) [Value.int IntKind.i64 0, Value.int IntKind.i64 0, Value.bool false, Value.int IntKind.u8 0],
  rSt 4 24 [(0, 2), (1, 3), (2, 4), (3, 6)] (some (.pair (.int .i64) (.pair (.int .i64) (.pair .bool (.int .u8))))) [Value.int IntKind.i64 0, Value.int IntKind.i64 0, Value.bool false, Value.int IntKind.u8 0],
  rStr,
  rStr,
  rStr,
  rInt .u64 8,
  rSt 2 24 [(0, 9), (1, 12)] (some (.pair .str (.int .u64))) [Value.string { data := #[] }, Value.int IntKind.u64 0],
  rSt 2 24 [(0, 9), (1, 12)] (some (.pair .str (.int .u64))) [Value.string { data := #[] }, Value.int IntKind.u64 0],
  rOne 8 (Value.pointer none)
]
def tbl1 : List TI := [
  rOne 8 (Value.pointer none),
  rOne 8 (Value.pointer none),
  rSt 1 8 [(0, 17)] none [Value.pointer none],
  rSt 1 8 [(0, 17)] none [Value.pointer none],
  default,
  rInt .i32 4,
  rSl 5 (some (.int .u8)),
  rOne 8 (Value.nilFunc),
  rSt 3 24 [(0, 3), (1, 3), (2, 3)] (some (.pair (.int .i64) (.pair (.int .i64) (.int .i64)))) [Value.int IntKind.i64 0, Value.int IntKind.i64 0, Value.int IntKind.i64 0],
  rSt 3 24 [(0, 3), (1, 3), (2, 3)] (some (.pair (.int .i64) (.pair (.int .i64) (.int .i64)))) [Value.int IntKind.i64 0, Value.int IntKind.i64 0, Value.int IntKind.i64 0],
  rOne 8 (Value.nilFunc),
  default,
  rOne 8 (Value.nilFunc),
  rSl 35 (some (.sl 25 (.pair (.int .i64) (.pair (.int .i64) (.int .i64))))),
  rOne 8 (Value.nilFunc),
  default
]
def tbl2 : List TI := [
  rOne 8 (Value.nilFunc),
  rOne 8 (Value.nilFunc),
  rOne 8 (Value.nilFunc),
  rSl 25 (some (.pair (.int .i64) (.pair (.int .i64) (.int .i64)))),
  rOne 8 (Value.nilFunc),
  rOne 8 (Value.nilFunc),
  rOne 8 (Value.nilFunc),
  rOne 8 (Value.nilFunc),
  rSl 51 (some (.sl 3 (.int .i64))),
  default,
  rOne 8 (Value.nilFunc),
  rOne 8 (Value.nilFunc),
  rOne 8 (Value.nilFunc),
  rOne 8 (Value.nilFunc),
  rOne 8 (Value.nilFunc),
  rOne 8 (Value.nilFunc)
]
def tbl3 : List TI := [
  rOne 8 (Value.nilFunc),
  rOne 8 (Value.nilFunc),
  rOne 8 (Value.nilFunc),
  rSl 3 (some (.int .i64)),
  rSt 5 112 [(0, 40), (1, 40), (2, 51), (3, 9), (4, 51)] (some (.pair (.sl 51 (.sl 3 (.int .i64))) (.pair (.sl 51 (.sl 3 (.int .i64))) (.pair (.sl 3 (.int .i64)) (.pair .str (.sl 3 (.int .i64))))))) [Value.slice none 0 0, Value.slice none 0 0, Value.slice none 0 0, Value.string { data := #[] }, Value.slice none 0 0],
  rSt 5 112 [(0, 40), (1, 40), (2, 51), (3, 9), (4, 51)] (some (.pair (.sl 51 (.sl 3 (.int .i64))) (.pair (.sl 51 (.sl 3 (.int .i64))) (.pair (.sl 3 (.int .i64)) (.pair .str (.sl 3 (.int .i64))))))) [Value.slice none 0 0, Value.slice none 0 0, Value.slice none 0 0, Value.string { data := #[] }, Value.slice none 0 0],
  rOne 8 (Value.nilFunc),
  rOne 8 (Value.nilFunc),
  rOne 8 (Value.nilFunc),
  rOne 8 (Value.nilFunc),
  default,
  rOne 8 (Value.nilFunc),
  rOne 8 (Value.nilFunc),
  default,
  rOne 8 (Value.nilFunc),
  rOne 8 (Value.nilFunc)
]
def tbl4 : List TI := [
  rOne 8 (Value.nilFunc),
  rOne 8 (Value.nilFunc),
  rSl 40 (some (.sl 51 (.sl 3 (.int .i64)))),
  rOne 8 (Value.nilFunc),
  rOne 8 (Value.nilFunc),
  rOne 8 (Value.nilFunc),
  rOne 8 (Value.nilFunc),
  rOne 8 (Value.nilFunc),
  rOne 8 (Value.nilFunc),
  default,
  rOne 8 (Value.nilFunc),
  rOne 8 (Value.nilFunc),
  rOne 8 (Value.nilFunc),
  rOne 8 (Value.nilFunc),
  rOne 8 (Value.pointer none),
  rOne 8 (Value.nilFunc)
]
def tbl5 : List TI := [
  rOne 8 (Value.nilFunc),
  rOne 8 (Value.nilFunc),
  rOne 8 (Value.nilFunc),
  rOne 8 (Value.nilFunc),
  rOne 8 (Value.nilFunc),
  rSl 9 (some .str),
  rOne 8 (Value.nilFunc),
  rOne 8 (Value.nilFunc),
  rOne 8 (Value.nilFunc),
  rArr 2 3 1 2 16 (some (.pair (.int .i64) (.int .i64))) none [Value.int IntKind.i64 0, Value.int IntKind.i64 0],
  rSl 89 (some (.pair (.int .i64) (.int .i64))),
  rOne 8 (Value.nilFunc),
  rOne 8 (Value.nilFunc),
  rOne 8 (Value.nilFunc),
  rOne 8 (Value.nilFunc),
  rOne 8 (Value.nilFunc)
]
def tbl6 : List TI := [
  rOne 8 (Value.nilFunc),
  rOne 8 (Value.nilFunc),
  rOne 8 (Value.nilFunc),
  rOne 8 (Value.nilFunc),
  rOne 8 (Value.nilFunc),
  rOne 8 (Value.nilFunc),
  rOne 8 (Value.nilFunc),
  default,
  rOne 8 (Value.nilFunc),
  rOne 8 (Value.nilFunc),
  rOne 8 (Value.nilFunc),
  default,
  rOne 8 (Value.nilFunc),
  rOne 8 (Value.nilFunc),
  rOne 8 (Value.nilFunc),
  rSl 4 (some .bool)
]
def tbl7 : List TI := [
  rOne 8 (Value.nilFunc),
  rSt 3 40 [(0, 22), (1, 3), (2, 3)] (some (.pair (.sl 5 (.int .u8)) (.pair (.int .i64) (.int .i64)))) [Value.slice none 0 0, Value.int IntKind.i64 0, Value.int IntKind.i64 0],
  rSt 3 40 [(0, 22), (1, 3), (2, 3)] (some (.pair (.sl 5 (.int .u8)) (.pair (.int .i64) (.int .i64)))) [Value.slice none 0 0, Value.int IntKind.i64 0, Value.int IntKind.i64 0],
  rOne 8 (Value.nilFunc),
  rOne 8 (Value.nilFunc),
  rOne 8 (Value.nilFunc),
  rOne 8 (Value.pointer none),
  rOne 8 (Value.nilFunc),
  rOne 8 (Value.nilFunc),
  rOne 8 (Value.nilFunc),
  rOne 8 (Value.nilFunc),
  rOne 8 (Value.nilFunc),
  rOne 8 (Value.nilFunc),
  rOne 8 (Value.nilFunc),
  rInt .u64 8,
  rSt 1 24 [(0, 51)] (some (.sl 3 (.int .i64))) [Value.slice none 0 0]
]
def tbl8 : List TI := [
  rSt 1 24 [(0, 51)] (some (.sl 3 (.int .i64))) [Value.slice none 0 0],
  rOne 8 (Value.nilFunc),
  rOne 8 (Value.map none),
  rOne 8 (Value.nilFunc),
  rSt 4 40 [(0, 17), (1, 17), (2, 17), (3, 9)] none [Value.pointer none, Value.pointer none, Value.pointer none, Value.string { data := #[] }],
  rSt 4 40 [(0, 17), (1, 17), (2, 17), (3, 9)] none [Value.pointer none, Value.pointer none, Value.pointer none, Value.string { data := #[] }],
  default,
  default,
  default,
  rInt .u32 4,
  rInt .u8 1,
  rInt .u8 1,
  rOne 8 (Value.nilFunc),
  rOne 8 (Value.pointer none),
  rInt .i32 4,
  rInt .i32 4
]
def tbl9 : List TI := [
  rSt 11 48 [(0, 12), (1, 12), (2, 137), (3, 138), (4, 5), (5, 5), (6, 139), (7, 140), (8, 141), (9, 142), (10, 143)] none [Value.int IntKind.u64 0, Value.int IntKind.u64 0, Value.int IntKind.u32 0, Value.int IntKind.u8 0, Value.int IntKind.u8 0, Value.int IntKind.u8 0, Value.int IntKind.u8 0, Value.nilFunc, Value.pointer none, Value.int IntKind.i32 0, Value.int IntKind.i32 0],
  rSt 11 48 [(0, 12), (1, 12), (2, 137), (3, 138), (4, 5), (5, 5), (6, 139), (7, 140), (8, 141), (9, 142), (10, 143)] none [Value.int IntKind.u64 0, Value.int IntKind.u64 0, Value.int IntKind.u32 0, Value.int IntKind.u8 0, Value.int IntKind.u8 0, Value.int IntKind.u8 0, Value.int IntKind.u8 0, Value.nilFunc, Value.pointer none, Value.int IntKind.i32 0, Value.int IntKind.i32 0],
  rOne 8 (Value.nilFunc),
  default,
  default,
  default,
  default,
  default,
  default,
  default,
  default,
  default,
  default,
  default,
  default,
  default
]
def tbl : List (List TI) := [tbl0, tbl1, tbl2, tbl3, tbl4, tbl5, tbl6, tbl7, tbl8, tbl9]
def tget {α : Type} (d : α) : List α → Nat → α
  | [], _ => d
  | r :: _, 0 => r
  | _ :: s, n + 1 => tget d s n
theorem tget_out {α : Type} {d : α} : ∀ {l : List α} {n : Nat}, l.length ≤ n → tget d l n = d
  | [], _, _ => rfl
  | _ :: _, 0, h => by simp at h
  | _ :: s, n + 1, h => tget_out (l := s) (by simpa using h)
def ti (t : TypeId) : TI := tget default (tget [] tbl (t / 16)) (t % 16)
theorem ti1 : TIok Try.prog ti 1 := ok_one (i := Try.t1) (by kernel_rfl) Try.underlying1 ⟨nofun, nofun⟩ rfl rfl rfl rfl rfl
theorem ti2 : TIok Try.prog ti 2 := ok_int (i := Try.t2) (by kernel_rfl) Try.underlying2 rfl rfl rfl rfl
theorem ti3 : TIok Try.prog ti 3 := ok_int (i := Try.t3) (by kernel_rfl) Try.underlying3 rfl rfl rfl rfl
theorem ti4 : TIok Try.prog ti 4 := ok_bool (i := Try.t4) (by kernel_rfl) Try.underlying4 rfl rfl rfl rfl
theorem ti5 : TIok Try.prog ti 5 := ok_int (i := Try.t5) (by kernel_rfl) Try.underlying5 rfl rfl rfl rfl
theorem ti6 : TIok Try.prog ti 6 := ok_int (i := Try.t6) (by kernel_rfl) Try.underlying6 rfl rfl rfl rfl
theorem ti7 : TIok Try.prog ti 7 := ok_st (vs := [Value.int IntKind.i64 0, Value.int IntKind.i64 0, Value.bool false, Value.int IntKind.u8 0]) (i := Try.t7) (by kernel_rfl) Try.underlying7 rfl rfl rfl rfl rfl (by intro f o ft h; match f with | 0 => simp at h; obtain ⟨rfl, rfl⟩ := h; exact ⟨_, rfl, rfl, rfl, rfl, by decide⟩ | 1 => simp at h; obtain ⟨rfl, rfl⟩ := h; exact ⟨_, rfl, rfl, rfl, rfl, by decide⟩ | 2 => simp at h; obtain ⟨rfl, rfl⟩ := h; exact ⟨_, rfl, rfl, rfl, rfl, by decide⟩ | 3 => simp at h; obtain ⟨rfl, rfl⟩ := h; exact ⟨_, rfl, rfl, rfl, rfl, by decide⟩ | _ + 4 => simp at h) (by kernel_rfl) (by intro y h; cases h; exact ⟨rfl, rfl, nofun, nofun, nofun⟩)
theorem ti8 : TIok Try.prog ti 8 := ok_st (vs := [Value.int IntKind.i64 0, Value.int IntKind.i64 0, Value.bool false, Value.int IntKind.u8 0]) (i := Try.t8) (by kernel_rfl) Try.underlying8 rfl rfl rfl rfl rfl (by intro f o ft h; match f with | 0 => simp at h; obtain ⟨rfl, rfl⟩ := h; exact ⟨_, rfl, rfl, rfl, rfl, by decide⟩ | 1 => simp at h; obtain ⟨rfl, rfl⟩ := h; exact ⟨_, rfl, rfl, rfl, rfl, by decide⟩ | 2 => simp at h; obtain ⟨rfl, rfl⟩ := h; exact ⟨_, rfl, rfl, rfl, rfl, by decide⟩ | 3 => simp at h; obtain ⟨rfl, rfl⟩ := h; exact ⟨_, rfl, rfl, rfl, rfl, by decide⟩ | _ + 4 => simp at h) (by kernel_rfl) (by intro y h; cases h; exact ⟨rfl, rfl, nofun, nofun, nofun⟩)
theorem ti9 : TIok Try.prog ti 9 := ok_str (i := Try.t9) (by kernel_rfl) Try.underlying9 rfl rfl rfl rfl
theorem ti10 : TIok Try.prog ti 10 := ok_str (i := Try.t10) (by kernel_rfl) Try.underlying10 rfl rfl rfl rfl
theorem ti11 : TIok Try.prog ti 11 := ok_str (i := Try.t11) (by kernel_rfl) Try.underlying11 rfl rfl rfl rfl
theorem ti12 : TIok Try.prog ti 12 := ok_int (i := Try.t12) (by kernel_rfl) Try.underlying12 rfl rfl rfl rfl
theorem ti13 : TIok Try.prog ti 13 := ok_st (vs := [Value.string { data := #[] }, Value.int IntKind.u64 0]) (i := Try.t13) (by kernel_rfl) Try.underlying13 rfl rfl rfl rfl rfl (by intro f o ft h; match f with | 0 => simp at h; obtain ⟨rfl, rfl⟩ := h; exact ⟨_, rfl, rfl, rfl, rfl, by decide⟩ | 1 => simp at h; obtain ⟨rfl, rfl⟩ := h; exact ⟨_, rfl, rfl, rfl, rfl, by decide⟩ | _ + 2 => simp at h) (by kernel_rfl) (by intro y h; cases h; exact ⟨rfl, rfl, nofun, nofun, nofun⟩)
theorem ti14 : TIok Try.prog ti 14 := ok_st (vs := [Value.string { data := #[] }, Value.int IntKind.u64 0]) (i := Try.t14) (by kernel_rfl) Try.underlying14 rfl rfl rfl rfl rfl (by intro f o ft h; match f with | 0 => simp at h; obtain ⟨rfl, rfl⟩ := h; exact ⟨_, rfl, rfl, rfl, rfl, by decide⟩ | 1 => simp at h; obtain ⟨rfl, rfl⟩ := h; exact ⟨_, rfl, rfl, rfl, rfl, by decide⟩ | _ + 2 => simp at h) (by kernel_rfl) (by intro y h; cases h; exact ⟨rfl, rfl, nofun, nofun, nofun⟩)
theorem ti15 : TIok Try.prog ti 15 := ok_one (i := Try.t15) (by kernel_rfl) Try.underlying15 ⟨nofun, nofun⟩ rfl rfl rfl rfl rfl
theorem ti16 : TIok Try.prog ti 16 := ok_one (i := Try.t16) (by kernel_rfl) Try.underlying16 ⟨nofun, nofun⟩ rfl rfl rfl rfl rfl
theorem ti17 : TIok Try.prog ti 17 := ok_one (i := Try.t17) (by kernel_rfl) Try.underlying17 ⟨nofun, nofun⟩ rfl rfl rfl rfl rfl
theorem ti18 : TIok Try.prog ti 18 := ok_st (vs := [Value.pointer none]) (i := Try.t18) (by kernel_rfl) Try.underlying18 rfl rfl rfl rfl rfl (by intro f o ft h; match f with | 0 => simp at h; obtain ⟨rfl, rfl⟩ := h; exact ⟨_, rfl, rfl, rfl, rfl, by decide⟩ | _ + 1 => simp at h) (by kernel_rfl) (by simp)
theorem ti19 : TIok Try.prog ti 19 := ok_st (vs := [Value.pointer none]) (i := Try.t19) (by kernel_rfl) Try.underlying19 rfl rfl rfl rfl rfl (by intro f o ft h; match f with | 0 => simp at h; obtain ⟨rfl, rfl⟩ := h; exact ⟨_, rfl, rfl, rfl, rfl, by decide⟩ | _ + 1 => simp at h) (by kernel_rfl) (by simp)
theorem ti21 : TIok Try.prog ti 21 := ok_int (i := Try.t21) (by kernel_rfl) Try.underlying21 rfl rfl rfl rfl
theorem ti22 : TIok Try.prog ti 22 := ok_sl (i := Try.t22) (by kernel_rfl) Try.underlying22 rfl rfl rfl rfl rfl
theorem ti23 : TIok Try.prog ti 23 := ok_one (i := Try.t23) (by kernel_rfl) Try.underlying23 ⟨nofun, nofun⟩ rfl rfl rfl rfl rfl
theorem ti24 : TIok Try.prog ti 24 := ok_st (vs := [Value.int IntKind.i64 0, Value.int IntKind.i64 0, Value.int IntKind.i64 0]) (i := Try.t24) (by kernel_rfl) Try.underlying24 rfl rfl rfl rfl rfl (by intro f o ft h; match f with | 0 => simp at h; obtain ⟨rfl, rfl⟩ := h; exact ⟨_, rfl, rfl, rfl, rfl, by decide⟩ | 1 => simp at h; obtain ⟨rfl, rfl⟩ := h; exact ⟨_, rfl, rfl, rfl, rfl, by decide⟩ | 2 => simp at h; obtain ⟨rfl, rfl⟩ := h; exact ⟨_, rfl, rfl, rfl, rfl, by decide⟩ | _ + 3 => simp at h) (by kernel_rfl) (by intro y h; cases h; exact ⟨rfl, rfl, nofun, nofun, nofun⟩)
theorem ti25 : TIok Try.prog ti 25 := ok_st (vs := [Value.int IntKind.i64 0, Value.int IntKind.i64 0, Value.int IntKind.i64 0]) (i := Try.t25) (by kernel_rfl) Try.underlying25 rfl rfl rfl rfl rfl (by intro f o ft h; match f with | 0 => simp at h; obtain ⟨rfl, rfl⟩ := h; exact ⟨_, rfl, rfl, rfl, rfl, by decide⟩ | 1 => simp at h; obtain ⟨rfl, rfl⟩ := h; exact ⟨_, rfl, rfl, rfl, rfl, by decide⟩ | 2 => simp at h; obtain ⟨rfl, rfl⟩ := h; exact ⟨_, rfl, rfl, rfl, rfl, by decide⟩ | _ + 3 => simp at h) (by kernel_rfl) (by intro y h; cases h; exact ⟨rfl, rfl, nofun, nofun, nofun⟩)
theorem ti26 : TIok Try.prog ti 26 := ok_one (i := Try.t26) (by kernel_rfl) Try.underlying26 ⟨nofun, nofun⟩ rfl rfl rfl rfl rfl
theorem ti28 : TIok Try.prog ti 28 := ok_one (i := Try.t28) (by kernel_rfl) Try.underlying28 ⟨nofun, nofun⟩ rfl rfl rfl rfl rfl
theorem ti29 : TIok Try.prog ti 29 := ok_sl (i := Try.t29) (by kernel_rfl) Try.underlying29 rfl rfl rfl rfl rfl
theorem ti30 : TIok Try.prog ti 30 := ok_one (i := Try.t30) (by kernel_rfl) Try.underlying30 ⟨nofun, nofun⟩ rfl rfl rfl rfl rfl
theorem ti32 : TIok Try.prog ti 32 := ok_one (i := Try.t32) (by kernel_rfl) Try.underlying32 ⟨nofun, nofun⟩ rfl rfl rfl rfl rfl
theorem ti33 : TIok Try.prog ti 33 := ok_one (i := Try.t33) (by kernel_rfl) Try.underlying33 ⟨nofun, nofun⟩ rfl rfl rfl rfl rfl
theorem ti34 : TIok Try.prog ti 34 := ok_one (i := Try.t34) (by kernel_rfl) Try.underlying34 ⟨nofun, nofun⟩ rfl rfl rfl rfl rfl
theorem ti35 : TIok Try.prog ti 35 := ok_sl (i := Try.t35) (by kernel_rfl) Try.underlying35 rfl rfl rfl rfl rfl
theorem ti36 : TIok Try.prog ti 36 := ok_one (i := Try.t36) (by kernel_rfl) Try.underlying36 ⟨nofun, nofun⟩ rfl rfl rfl rfl rfl
theorem ti37 : TIok Try.prog ti 37 := ok_one (i := Try.t37) (by kernel_rfl) Try.underlying37 ⟨nofun, nofun⟩ rfl rfl rfl rfl rfl
theorem ti38 : TIok Try.prog ti 38 := ok_one (i := Try.t38) (by kernel_rfl) Try.underlying38 ⟨nofun, nofun⟩ rfl rfl rfl rfl rfl
theorem ti39 : TIok Try.prog ti 39 := ok_one (i := Try.t39) (by kernel_rfl) Try.underlying39 ⟨nofun, nofun⟩ rfl rfl rfl rfl rfl
theorem ti40 : TIok Try.prog ti 40 := ok_sl (i := Try.t40) (by kernel_rfl) Try.underlying40 rfl rfl rfl rfl rfl
theorem ti42 : TIok Try.prog ti 42 := ok_one (i := Try.t42) (by kernel_rfl) Try.underlying42 ⟨nofun, nofun⟩ rfl rfl rfl rfl rfl
theorem ti43 : TIok Try.prog ti 43 := ok_one (i := Try.t43) (by kernel_rfl) Try.underlying43 ⟨nofun, nofun⟩ rfl rfl rfl rfl rfl
theorem ti44 : TIok Try.prog ti 44 := ok_one (i := Try.t44) (by kernel_rfl) Try.underlying44 ⟨nofun, nofun⟩ rfl rfl rfl rfl rfl
theorem ti45 : TIok Try.prog ti 45 := ok_one (i := Try.t45) (by kernel_rfl) Try.underlying45 ⟨nofun, nofun⟩ rfl rfl rfl rfl rfl
theorem ti46 : TIok Try.prog ti 46 := ok_one (i := Try.t46) (by kernel_rfl) Try.underlying46 ⟨nofun, nofun⟩ rfl rfl rfl rfl rfl
theorem ti47 : TIok Try.prog ti 47 := ok_one (i := Try.t47) (by kernel_rfl) Try.underlying47 ⟨nofun, nofun⟩ rfl rfl rfl rfl rfl
theorem ti48 : TIok Try.prog ti 48 := ok_one (i := Try.t48) (by kernel_rfl) Try.underlying48 ⟨nofun, nofun⟩ rfl rfl rfl rfl rfl
theorem ti49 : TIok Try.prog ti 49 := ok_one (i := Try.t49) (by kernel_rfl) Try.underlying49 ⟨nofun, nofun⟩ rfl rfl rfl rfl rfl
theorem ti50 : TIok Try.prog ti 50 := ok_one (i := Try.t50) (by kernel_rfl) Try.underlying50 ⟨nofun, nofun⟩ rfl rfl rfl rfl rfl
theorem ti51 : TIok Try.prog ti 51 := ok_sl (i := Try.t51) (by kernel_rfl) Try.underlying51 rfl rfl rfl rfl rfl
theorem ti52 : TIok Try.prog ti 52 := ok_st (vs := [Value.slice none 0 0, Value.slice none 0 0, Value.slice none 0 0, Value.string { data := #[] }, Value.slice none 0 0]) (i := Try.t52) (by kernel_rfl) Try.underlying52 rfl rfl rfl rfl rfl (by intro f o ft h; match f with | 0 => simp at h; obtain ⟨rfl, rfl⟩ := h; exact ⟨_, rfl, rfl, rfl, rfl, by decide⟩ | 1 => simp at h; obtain ⟨rfl, rfl⟩ := h; exact ⟨_, rfl, rfl, rfl, rfl, by decide⟩ | 2 => simp at h; obtain ⟨rfl, rfl⟩ := h; exact ⟨_, rfl, rfl, rfl, rfl, by decide⟩ | 3 => simp at h; obtain ⟨rfl, rfl⟩ := h; exact ⟨_, rfl, rfl, rfl, rfl, by decide⟩ | 4 => simp at h; obtain ⟨rfl, rfl⟩ := h; exact ⟨_, rfl, rfl, rfl, rfl, by decide⟩ | _ + 5 => simp at h) (by kernel_rfl) (by intro y h; cases h; exact ⟨rfl, rfl, nofun, nofun, nofun⟩)
theorem ti53 : TIok Try.prog ti 53 := ok_st (vs := [Value.slice none 0 0, Value.slice none 0 0, Value.slice none 0 0, Value.string { data := #[] }, Value.slice none 0 0]) (i := Try.t53) (by kernel_rfl) Try.underlying53 rfl rfl rfl rfl rfl (by intro f o ft h; match f with | 0 => simp at h; obtain ⟨rfl, rfl⟩ := h; exact ⟨_, rfl, rfl, rfl, rfl, by decide⟩ | 1 => simp at h; obtain ⟨rfl, rfl⟩ := h; exact ⟨_, rfl, rfl, rfl, rfl, by decide⟩ | 2 => simp at h; obtain ⟨rfl, rfl⟩ := h; exact ⟨_, rfl, rfl, rfl, rfl, by decide⟩ | 3 => simp at h; obtain ⟨rfl, rfl⟩ := h; exact ⟨_, rfl, rfl, rfl, rfl, by decide⟩ | 4 => simp at h; obtain ⟨rfl, rfl⟩ := h; exact ⟨_, rfl, rfl, rfl, rfl, by decide⟩ | _ + 5 => simp at h) (by kernel_rfl) (by intro y h; cases h; exact ⟨rfl, rfl, nofun, nofun, nofun⟩)
theorem ti54 : TIok Try.prog ti 54 := ok_one (i := Try.t54) (by kernel_rfl) Try.underlying54 ⟨nofun, nofun⟩ rfl rfl rfl rfl rfl
theorem ti55 : TIok Try.prog ti 55 := ok_one (i := Try.t55) (by kernel_rfl) Try.underlying55 ⟨nofun, nofun⟩ rfl rfl rfl rfl rfl
theorem ti56 : TIok Try.prog ti 56 := ok_one (i := Try.t56) (by kernel_rfl) Try.underlying56 ⟨nofun, nofun⟩ rfl rfl rfl rfl rfl
theorem ti57 : TIok Try.prog ti 57 := ok_one (i := Try.t57) (by kernel_rfl) Try.underlying57 ⟨nofun, nofun⟩ rfl rfl rfl rfl rfl
theorem ti59 : TIok Try.prog ti 59 := ok_one (i := Try.t59) (by kernel_rfl) Try.underlying59 ⟨nofun, nofun⟩ rfl rfl rfl rfl rfl
theorem ti60 : TIok Try.prog ti 60 := ok_one (i := Try.t60) (by kernel_rfl) Try.underlying60 ⟨nofun, nofun⟩ rfl rfl rfl rfl rfl
theorem ti62 : TIok Try.prog ti 62 := ok_one (i := Try.t62) (by kernel_rfl) Try.underlying62 ⟨nofun, nofun⟩ rfl rfl rfl rfl rfl
theorem ti63 : TIok Try.prog ti 63 := ok_one (i := Try.t63) (by kernel_rfl) Try.underlying63 ⟨nofun, nofun⟩ rfl rfl rfl rfl rfl
theorem ti64 : TIok Try.prog ti 64 := ok_one (i := Try.t64) (by kernel_rfl) Try.underlying64 ⟨nofun, nofun⟩ rfl rfl rfl rfl rfl
theorem ti65 : TIok Try.prog ti 65 := ok_one (i := Try.t65) (by kernel_rfl) Try.underlying65 ⟨nofun, nofun⟩ rfl rfl rfl rfl rfl
theorem ti66 : TIok Try.prog ti 66 := ok_sl (i := Try.t66) (by kernel_rfl) Try.underlying66 rfl rfl rfl rfl rfl
theorem ti67 : TIok Try.prog ti 67 := ok_one (i := Try.t67) (by kernel_rfl) Try.underlying67 ⟨nofun, nofun⟩ rfl rfl rfl rfl rfl
theorem ti68 : TIok Try.prog ti 68 := ok_one (i := Try.t68) (by kernel_rfl) Try.underlying68 ⟨nofun, nofun⟩ rfl rfl rfl rfl rfl
theorem ti69 : TIok Try.prog ti 69 := ok_one (i := Try.t69) (by kernel_rfl) Try.underlying69 ⟨nofun, nofun⟩ rfl rfl rfl rfl rfl
theorem ti70 : TIok Try.prog ti 70 := ok_one (i := Try.t70) (by kernel_rfl) Try.underlying70 ⟨nofun, nofun⟩ rfl rfl rfl rfl rfl
theorem ti71 : TIok Try.prog ti 71 := ok_one (i := Try.t71) (by kernel_rfl) Try.underlying71 ⟨nofun, nofun⟩ rfl rfl rfl rfl rfl
theorem ti72 : TIok Try.prog ti 72 := ok_one (i := Try.t72) (by kernel_rfl) Try.underlying72 ⟨nofun, nofun⟩ rfl rfl rfl rfl rfl
theorem ti74 : TIok Try.prog ti 74 := ok_one (i := Try.t74) (by kernel_rfl) Try.underlying74 ⟨nofun, nofun⟩ rfl rfl rfl rfl rfl
theorem ti75 : TIok Try.prog ti 75 := ok_one (i := Try.t75) (by kernel_rfl) Try.underlying75 ⟨nofun, nofun⟩ rfl rfl rfl rfl rfl
theorem ti76 : TIok Try.prog ti 76 := ok_one (i := Try.t76) (by kernel_rfl) Try.underlying76 ⟨nofun, nofun⟩ rfl rfl rfl rfl rfl
theorem ti77 : TIok Try.prog ti 77 := ok_one (i := Try.t77) (by kernel_rfl) Try.underlying77 ⟨nofun, nofun⟩ rfl rfl rfl rfl rfl
theorem ti78 : TIok Try.prog ti 78 := ok_one (i := Try.t78) (by kernel_rfl) Try.underlying78 ⟨nofun, nofun⟩ rfl rfl rfl rfl rfl
theorem ti79 : TIok Try.prog ti 79 := ok_one (i := Try.t79) (by kernel_rfl) Try.underlying79 ⟨nofun, nofun⟩ rfl rfl rfl rfl rfl
theorem ti80 : TIok Try.prog ti 80 := ok_one (i := Try.t80) (by kernel_rfl) Try.underlying80 ⟨nofun, nofun⟩ rfl rfl rfl rfl rfl
theorem ti81 : TIok Try.prog ti 81 := ok_one (i := Try.t81) (by kernel_rfl) Try.underlying81 ⟨nofun, nofun⟩ rfl rfl rfl rfl rfl
theorem ti82 : TIok Try.prog ti 82 := ok_one (i := Try.t82) (by kernel_rfl) Try.underlying82 ⟨nofun, nofun⟩ rfl rfl rfl rfl rfl
theorem ti83 : TIok Try.prog ti 83 := ok_one (i := Try.t83) (by kernel_rfl) Try.underlying83 ⟨nofun, nofun⟩ rfl rfl rfl rfl rfl
theorem ti84 : TIok Try.prog ti 84 := ok_one (i := Try.t84) (by kernel_rfl) Try.underlying84 ⟨nofun, nofun⟩ rfl rfl rfl rfl rfl
theorem ti85 : TIok Try.prog ti 85 := ok_sl (i := Try.t85) (by kernel_rfl) Try.underlying85 rfl rfl rfl rfl rfl
theorem ti86 : TIok Try.prog ti 86 := ok_one (i := Try.t86) (by kernel_rfl) Try.underlying86 ⟨nofun, nofun⟩ rfl rfl rfl rfl rfl
theorem ti87 : TIok Try.prog ti 87 := ok_one (i := Try.t87) (by kernel_rfl) Try.underlying87 ⟨nofun, nofun⟩ rfl rfl rfl rfl rfl
theorem ti88 : TIok Try.prog ti 88 := ok_one (i := Try.t88) (by kernel_rfl) Try.underlying88 ⟨nofun, nofun⟩ rfl rfl rfl rfl rfl
theorem ti89 : TIok Try.prog ti 89 := ok_arr (vs := [Value.int IntKind.i64 0, Value.int IntKind.i64 0]) (i := Try.t89) (by kernel_rfl) Try.underlying89 rfl rfl rfl rfl rfl rfl rfl (by intro y h; cases h; exact ⟨rfl, rfl, nofun, nofun, nofun⟩) (by simp)
theorem ti90 : TIok Try.prog ti 90 := ok_sl (i := Try.t90) (by kernel_rfl) Try.underlying90 rfl rfl rfl rfl rfl
theorem ti91 : TIok Try.prog ti 91 := ok_one (i := Try.t91) (by kernel_rfl) Try.underlying91 ⟨nofun, nofun⟩ rfl rfl rfl rfl rfl
theorem ti92 : TIok Try.prog ti 92 := ok_one (i := Try.t92) (by kernel_rfl) Try.underlying92 ⟨nofun, nofun⟩ rfl rfl rfl rfl rfl
theorem ti93 : TIok Try.prog ti 93 := ok_one (i := Try.t93) (by kernel_rfl) Try.underlying93 ⟨nofun, nofun⟩ rfl rfl rfl rfl rfl
theorem ti94 : TIok Try.prog ti 94 := ok_one (i := Try.t94) (by kernel_rfl) Try.underlying94 ⟨nofun, nofun⟩ rfl rfl rfl rfl rfl
theorem ti95 : TIok Try.prog ti 95 := ok_one (i := Try.t95) (by kernel_rfl) Try.underlying95 ⟨nofun, nofun⟩ rfl rfl rfl rfl rfl
theorem ti96 : TIok Try.prog ti 96 := ok_one (i := Try.t96) (by kernel_rfl) Try.underlying96 ⟨nofun, nofun⟩ rfl rfl rfl rfl rfl
theorem ti97 : TIok Try.prog ti 97 := ok_one (i := Try.t97) (by kernel_rfl) Try.underlying97 ⟨nofun, nofun⟩ rfl rfl rfl rfl rfl
theorem ti98 : TIok Try.prog ti 98 := ok_one (i := Try.t98) (by kernel_rfl) Try.underlying98 ⟨nofun, nofun⟩ rfl rfl rfl rfl rfl
theorem ti99 : TIok Try.prog ti 99 := ok_one (i := Try.t99) (by kernel_rfl) Try.underlying99 ⟨nofun, nofun⟩ rfl rfl rfl rfl rfl
theorem ti100 : TIok Try.prog ti 100 := ok_one (i := Try.t100) (by kernel_rfl) Try.underlying100 ⟨nofun, nofun⟩ rfl rfl rfl rfl rfl
theorem ti101 : TIok Try.prog ti 101 := ok_one (i := Try.t101) (by kernel_rfl) Try.underlying101 ⟨nofun, nofun⟩ rfl rfl rfl rfl rfl
theorem ti102 : TIok Try.prog ti 102 := ok_one (i := Try.t102) (by kernel_rfl) Try.underlying102 ⟨nofun, nofun⟩ rfl rfl rfl rfl rfl
theorem ti104 : TIok Try.prog ti 104 := ok_one (i := Try.t104) (by kernel_rfl) Try.underlying104 ⟨nofun, nofun⟩ rfl rfl rfl rfl rfl
theorem ti105 : TIok Try.prog ti 105 := ok_one (i := Try.t105) (by kernel_rfl) Try.underlying105 ⟨nofun, nofun⟩ rfl rfl rfl rfl rfl
theorem ti106 : TIok Try.prog ti 106 := ok_one (i := Try.t106) (by kernel_rfl) Try.underlying106 ⟨nofun, nofun⟩ rfl rfl rfl rfl rfl
theorem ti108 : TIok Try.prog ti 108 := ok_one (i := Try.t108) (by kernel_rfl) Try.underlying108 ⟨nofun, nofun⟩ rfl rfl rfl rfl rfl
theorem ti109 : TIok Try.prog ti 109 := ok_one (i := Try.t109) (by kernel_rfl) Try.underlying109 ⟨nofun, nofun⟩ rfl rfl rfl rfl rfl
theorem ti110 : TIok Try.prog ti 110 := ok_one (i := Try.t110) (by kernel_rfl) Try.underlying110 ⟨nofun, nofun⟩ rfl rfl rfl rfl rfl
theorem ti111 : TIok Try.prog ti 111 := ok_sl (i := Try.t111) (by kernel_rfl) Try.underlying111 rfl rfl rfl rfl rfl
theorem ti112 : TIok Try.prog ti 112 := ok_one (i := Try.t112) (by kernel_rfl) Try.underlying112 ⟨nofun, nofun⟩ rfl rfl rfl rfl rfl
theorem ti113 : TIok Try.prog ti 113 := ok_st (vs := [Value.slice none 0 0, Value.int IntKind.i64 0, Value.int IntKind.i64 0]) (i := Try.t113) (by kernel_rfl) Try.underlying113 rfl rfl rfl rfl rfl (by intro f o ft h; match f with | 0 => simp at h; obtain ⟨rfl, rfl⟩ := h; exact ⟨_, rfl, rfl, rfl, rfl, by decide⟩ | 1 => simp at h; obtain ⟨rfl, rfl⟩ := h; exact ⟨_, rfl, rfl, rfl, rfl, by decide⟩ | 2 => simp at h; obtain ⟨rfl, rfl⟩ := h; exact ⟨_, rfl, rfl, rfl, rfl, by decide⟩ | _ + 3 => simp at h) (by kernel_rfl) (by intro y h; cases h; exact ⟨rfl, rfl, nofun, nofun, nofun⟩)
theorem ti114 : TIok Try.prog ti 114 := ok_st (vs := [Value.slice none 0 0, Value.int IntKind.i64 0, Value.int IntKind.i64 0]) (i := Try.t114) (by kernel_rfl) Try.underlying114 rfl rfl rfl rfl rfl (by intro f o ft h; match f with | 0 => simp at h; obtain ⟨rfl, rfl⟩ := h; exact ⟨_, rfl, rfl, rfl, rfl, by decide⟩ | 1 => simp at h; obtain ⟨rfl, rfl⟩ := h; exact ⟨_, rfl, rfl, rfl, rfl, by decide⟩ | 2 => simp at h; obtain ⟨rfl, rfl⟩ := h; exact ⟨_, rfl, rfl, rfl, rfl, by decide⟩ | _ + 3 => simp at h) (by kernel_rfl) (by intro y h; cases h; exact ⟨rfl, rfl, nofun, nofun, nofun⟩)
theorem ti115 : TIok Try.prog ti 115 := ok_one (i := Try.t115) (by kernel_rfl) Try.underlying115 ⟨nofun, nofun⟩ rfl rfl rfl rfl rfl
theorem ti116 : TIok Try.prog ti 116 := ok_one (i := Try.t116) (by kernel_rfl) Try.underlying116 ⟨nofun, nofun⟩ rfl rfl rfl rfl rfl
theorem ti117 : TIok Try.prog ti 117 := ok_one (i := Try.t117) (by kernel_rfl) Try.underlying117 ⟨nofun, nofun⟩ rfl rfl rfl rfl rfl
theorem ti118 : TIok Try.prog ti 118 := ok_one (i := Try.t118) (by kernel_rfl) Try.underlying118 ⟨nofun, nofun⟩ rfl rfl rfl rfl rfl
theorem ti119 : TIok Try.prog ti 119 := ok_one (i := Try.t119) (by kernel_rfl) Try.underlying119 ⟨nofun, nofun⟩ rfl rfl rfl rfl rfl
theorem ti120 : TIok Try.prog ti 120 := ok_one (i := Try.t120) (by kernel_rfl) Try.underlying120 ⟨nofun, nofun⟩ rfl rfl rfl rfl rfl
theorem ti121 : TIok Try.prog ti 121 := ok_one (i := Try.t121) (by kernel_rfl) Try.underlying121 ⟨nofun, nofun⟩ rfl rfl rfl rfl rfl
theorem ti122 : TIok Try.prog ti 122 := ok_one (i := Try.t122) (by kernel_rfl) Try.underlying122 ⟨nofun, nofun⟩ rfl rfl rfl rfl rfl
theorem ti123 : TIok Try.prog ti 123 := ok_one (i := Try.t123) (by kernel_rfl) Try.underlying123 ⟨nofun, nofun⟩ rfl rfl rfl rfl rfl
theorem ti124 : TIok Try.prog ti 124 := ok_one (i := Try.t124) (by kernel_rfl) Try.underlying124 ⟨nofun, nofun⟩ rfl rfl rfl rfl rfl
theorem ti125 : TIok Try.prog ti 125 := ok_one (i := Try.t125) (by kernel_rfl) Try.underlying125 ⟨nofun, nofun⟩ rfl rfl rfl rfl rfl
theorem ti126 : TIok Try.prog ti 126 := ok_int (i := Try.t126) (by kernel_rfl) Try.underlying126 rfl rfl rfl rfl
theorem ti127 : TIok Try.prog ti 127 := ok_st (vs := [Value.slice none 0 0]) (i := Try.t127) (by kernel_rfl) Try.underlying127 rfl rfl rfl rfl rfl (by intro f o ft h; match f with | 0 => simp at h; obtain ⟨rfl, rfl⟩ := h; exact ⟨_, rfl, rfl, rfl, rfl, by decide⟩ | _ + 1 => simp at h) (by kernel_rfl) (by intro y h; cases h; exact ⟨rfl, rfl, nofun, nofun, nofun⟩)
theorem ti128 : TIok Try.prog ti 128 := ok_st (vs := [Value.slice none 0 0]) (i := Try.t128) (by kernel_rfl) Try.underlying128 rfl rfl rfl rfl rfl (by intro f o ft h; match f with | 0 => simp at h; obtain ⟨rfl, rfl⟩ := h; exact ⟨_, rfl, rfl, rfl, rfl, by decide⟩ | _ + 1 => simp at h) (by kernel_rfl) (by intro y h; cases h; exact ⟨rfl, rfl, nofun, nofun, nofun⟩)
theorem ti129 : TIok Try.prog ti 129 := ok_one (i := Try.t129) (by kernel_rfl) Try.underlying129 ⟨nofun, nofun⟩ rfl rfl rfl rfl rfl
theorem ti130 : TIok Try.prog ti 130 := ok_one (i := Try.t130) (by kernel_rfl) Try.underlying130 ⟨nofun, nofun⟩ rfl rfl rfl rfl rfl
theorem ti131 : TIok Try.prog ti 131 := ok_one (i := Try.t131) (by kernel_rfl) Try.underlying131 ⟨nofun, nofun⟩ rfl rfl rfl rfl rfl
theorem ti132 : TIok Try.prog ti 132 := ok_st (vs := [Value.pointer none, Value.pointer none, Value.pointer none, Value.string { data := #[] }]) (i := Try.t132) (by kernel_rfl) Try.underlying132 rfl rfl rfl rfl rfl (by intro f o ft h; match f with | 0 => simp at h; obtain ⟨rfl, rfl⟩ := h; exact ⟨_, rfl, rfl, rfl, rfl, by decide⟩ | 1 => simp at h; obtain ⟨rfl, rfl⟩ := h; exact ⟨_, rfl, rfl, rfl, rfl, by decide⟩ | 2 => simp at h; obtain ⟨rfl, rfl⟩ := h; exact ⟨_, rfl, rfl, rfl, rfl, by decide⟩ | 3 => simp at h; obtain ⟨rfl, rfl⟩ := h; exact ⟨_, rfl, rfl, rfl, rfl, by decide⟩ | _ + 4 => simp at h) (by kernel_rfl) (by simp)
theorem ti133 : TIok Try.prog ti 133 := ok_st (vs := [Value.pointer none, Value.pointer none, Value.pointer none, Value.string { data := #[] }]) (i := Try.t133) (by kernel_rfl) Try.underlying133 rfl rfl rfl rfl rfl (by intro f o ft h; match f with | 0 => simp at h; obtain ⟨rfl, rfl⟩ := h; exact ⟨_, rfl, rfl, rfl, rfl, by decide⟩ | 1 => simp at h; obtain ⟨rfl, rfl⟩ := h; exact ⟨_, rfl, rfl, rfl, rfl, by decide⟩ | 2 => simp at h; obtain ⟨rfl, rfl⟩ := h; exact ⟨_, rfl, rfl, rfl, rfl, by decide⟩ | 3 => simp at h; obtain ⟨rfl, rfl⟩ := h; exact ⟨_, rfl, rfl, rfl, rfl, by decide⟩ | _ + 4 => simp at h) (by kernel_rfl) (by simp)
theorem ti137 : TIok Try.prog ti 137 := ok_int (i := Try.t137) (by kernel_rfl) Try.underlying137 rfl rfl rfl rfl
theorem ti138 : TIok Try.prog ti 138 := ok_int (i := Try.t138) (by kernel_rfl) Try.underlying138 rfl rfl rfl rfl
theorem ti139 : TIok Try.prog ti 139 := ok_int (i := Try.t139) (by kernel_rfl) Try.underlying139 rfl rfl rfl rfl
theorem ti140 : TIok Try.prog ti 140 := ok_one (i := Try.t140) (by kernel_rfl) Try.underlying140 ⟨nofun, nofun⟩ rfl rfl rfl rfl rfl
theorem ti141 : TIok Try.prog ti 141 := ok_one (i := Try.t141) (by kernel_rfl) Try.underlying141 ⟨nofun, nofun⟩ rfl rfl rfl rfl rfl
theorem ti142 : TIok Try.prog ti 142 := ok_int (i := Try.t142) (by kernel_rfl) Try.underlying142 rfl rfl rfl rfl
theorem ti143 : TIok Try.prog ti 143 := ok_int (i := Try.t143) (by kernel_rfl) Try.underlying143 rfl rfl rfl rfl
theorem ti144 : TIok Try.prog ti 144 := ok_st (vs := [Value.int IntKind.u64 0, Value.int IntKind.u64 0, Value.int IntKind.u32 0, Value.int IntKind.u8 0, Value.int IntKind.u8 0, Value.int IntKind.u8 0, Value.int IntKind.u8 0, Value.nilFunc, Value.pointer none, Value.int IntKind.i32 0, Value.int IntKind.i32 0]) (i := Try.t144) (by kernel_rfl) Try.underlying144 rfl rfl rfl rfl rfl (by intro f o ft h; match f with | 0 => simp at h; obtain ⟨rfl, rfl⟩ := h; exact ⟨_, rfl, rfl, rfl, rfl, by decide⟩ | 1 => simp at h; obtain ⟨rfl, rfl⟩ := h; exact ⟨_, rfl, rfl, rfl, rfl, by decide⟩ | 2 => simp at h; obtain ⟨rfl, rfl⟩ := h; exact ⟨_, rfl, rfl, rfl, rfl, by decide⟩ | 3 => simp at h; obtain ⟨rfl, rfl⟩ := h; exact ⟨_, rfl, rfl, rfl, rfl, by decide⟩ | 4 => simp at h; obtain ⟨rfl, rfl⟩ := h; exact ⟨_, rfl, rfl, rfl, rfl, by decide⟩ | 5 => simp at h; obtain ⟨rfl, rfl⟩ := h; exact ⟨_, rfl, rfl, rfl, rfl, by decide⟩ | 6 => simp at h; obtain ⟨rfl, rfl⟩ := h; exact ⟨_, rfl, rfl, rfl, rfl, by decide⟩ | 7 => simp at h; obtain ⟨rfl, rfl⟩ := h; exact ⟨_, rfl, rfl, rfl, rfl, by decide⟩ | 8 => simp at h; obtain ⟨rfl, rfl⟩ := h; exact ⟨_, rfl, rfl, rfl, rfl, by decide⟩ | 9 => simp at h; obtain ⟨rfl, rfl⟩ := h; exact ⟨_, rfl, rfl, rfl, rfl, by decide⟩ | 10 => simp at h; obtain ⟨rfl, rfl⟩ := h; exact ⟨_, rfl, rfl, rfl, rfl, by decide⟩ | _ + 11 => simp at h) (by kernel_rfl) (by simp)
theorem ti145 : TIok Try.prog ti 145 := ok_st (vs := [Value.int IntKind.u64 0, Value.int IntKind.u64 0, Value.int IntKind.u32 0, Value.int IntKind.u8 0, Value.int IntKind.u8 0, Value.int IntKind.u8 0, Value.int IntKind.u8 0, Value.nilFunc, Value.pointer none, Value.int IntKind.i32 0, Value.int IntKind.i32 0]) (i := Try.t145) (by kernel_rfl) Try.underlying145 rfl rfl rfl rfl rfl (by intro f o ft h; match f with | 0 => simp at h; obtain ⟨rfl, rfl⟩ := h; exact ⟨_, rfl, rfl, rfl, rfl, by decide⟩ | 1 => simp at h; obtain ⟨rfl, rfl⟩ := h; exact ⟨_, rfl, rfl, rfl, rfl, by decide⟩ | 2 => simp at h; obtain ⟨rfl, rfl⟩ := h; exact ⟨_, rfl, rfl, rfl, rfl, by decide⟩ | 3 => simp at h; obtain ⟨rfl, rfl⟩ := h; exact ⟨_, rfl, rfl, rfl, rfl, by decide⟩ | 4 => simp at h; obtain ⟨rfl, rfl⟩ := h; exact ⟨_, rfl, rfl, rfl, rfl, by decide⟩ | 5 => simp at h; obtain ⟨rfl, rfl⟩ := h; exact ⟨_, rfl, rfl, rfl, rfl, by decide⟩ | 6 => simp at h; obtain ⟨rfl, rfl⟩ := h; exact ⟨_, rfl, rfl, rfl, rfl, by decide⟩ | 7 => simp at h; obtain ⟨rfl, rfl⟩ := h; exact ⟨_, rfl, rfl, rfl, rfl, by decide⟩ | 8 => simp at h; obtain ⟨rfl, rfl⟩ := h; exact ⟨_, rfl, rfl, rfl, rfl, by decide⟩ | 9 => simp at h; obtain ⟨rfl, rfl⟩ := h; exact ⟨_, rfl, rfl, rfl, rfl, by decide⟩ | 10 => simp at h; obtain ⟨rfl, rfl⟩ := h; exact ⟨_, rfl, rfl, rfl, rfl, by decide⟩ | _ + 11 => simp at h) (by kernel_rfl) (by simp)
theorem ti146 : TIok Try.prog ti 146 := ok_one (i := Try.t146) (by kernel_rfl) Try.underlying146 ⟨nofun, nofun⟩ rfl rfl rfl rfl rfl
theorem tis : ∀ t, (ti t).ok = true → TIok Try.prog ti t := by
  intro t h
  by_cases hlt : t < 160
  · match t, hlt, h with
    | 0, _, h => exact nomatch (show false = true from h)
    | 1, _, h => exact ti1
    | 2, _, h => exact ti2
    | 3, _, h => exact ti3
    | 4, _, h => exact ti4
    | 5, _, h => exact ti5
    | 6, _, h => exact ti6
    | 7, _, h => exact ti7
    | 8, _, h => exact ti8
    | 9, _, h => exact ti9
    | 10, _, h => exact ti10
    | 11, _, h => exact ti11
    | 12, _, h => exact ti12
    | 13, _, h => exact ti13
    | 14, _, h => exact ti14
    | 15, _, h => exact ti15
    | 16, _, h => exact ti16
    | 17, _, h => exact ti17
    | 18, _, h => exact ti18
    | 19, _, h => exact ti19
    | 20, _, h => exact nomatch (show false = true from h)
    | 21, _, h => exact ti21
    | 22, _, h => exact ti22
    | 23, _, h => exact ti23
    | 24, _, h => exact ti24
    | 25, _, h => exact ti25
    | 26, _, h => exact ti26
    | 27, _, h => exact nomatch (show false = true from h)
    | 28, _, h => exact ti28
    | 29, _, h => exact ti29
    | 30, _, h => exact ti30
    | 31, _, h => exact nomatch (show false = true from h)
    | 32, _, h => exact ti32
    | 33, _, h => exact ti33
    | 34, _, h => exact ti34
    | 35, _, h => exact ti35
    | 36, _, h => exact ti36
    | 37, _, h => exact ti37
    | 38, _, h => exact ti38
    | 39, _, h => exact ti39
    | 40, _, h => exact ti40
    | 41, _, h => exact nomatch (show false = true from h)
    | 42, _, h => exact ti42
    | 43, _, h => exact ti43
    | 44, _, h => exact ti44
    | 45, _, h => exact ti45
    | 46, _, h => exact ti46
    | 47, _, h => exact ti47
    | 48, _, h => exact ti48
    | 49, _, h => exact ti49
    | 50, _, h => exact ti50
    | 51, _, h => exact ti51
    | 52, _, h => exact ti52
    | 53, _, h => exact ti53
    | 54, _, h => exact ti54
    | 55, _, h => exact ti55
    | 56, _, h => exact ti56
    | 57, _, h => exact ti57
    | 58, _, h => exact nomatch (show false = true from h)
    | 59, _, h => exact ti59
    | 60, _, h => exact ti60
    | 61, _, h => exact nomatch (show false = true from h)
    | 62, _, h => exact ti62
    | 63, _, h => exact ti63
    | 64, _, h => exact ti64
    | 65, _, h => exact ti65
    | 66, _, h => exact ti66
    | 67, _, h => exact ti67
    | 68, _, h => exact ti68
    | 69, _, h => exact ti69
    | 70, _, h => exact ti70
    | 71, _, h => exact ti71
    | 72, _, h => exact ti72
    | 73, _, h => exact nomatch (show false = true from h)
    | 74, _, h => exact ti74
    | 75, _, h => exact ti75
    | 76, _, h => exact ti76
    | 77, _, h => exact ti77
    | 78, _, h => exact ti78
    | 79, _, h => exact ti79
    | 80, _, h => exact ti80
    | 81, _, h => exact ti81
    | 82, _, h => exact ti82
    | 83, _, h => exact ti83
    | 84, _, h => exact ti84
    | 85, _, h => exact ti85
    | 86, _, h => exact ti86
    | 87, _, h => exact ti87
    | 88, _, h => exact ti88
    | 89, _, h => exact ti89
    | 90, _, h => exact ti90
    | 91, _, h => exact ti91
    | 92, _, h => exact ti92
    | 93, _, h => exact ti93
    | 94, _, h => exact ti94
    | 95, _, h => exact ti95
    | 96, _, h => exact ti96
    | 97, _, h => exact ti97
    | 98, _, h => exact ti98
    | 99, _, h => exact ti99
    | 100, _, h => exact ti100
    | 101, _, h => exact ti101
    | 102, _, h => exact ti102
    | 103, _, h => exact nomatch (show false = true from h)
    | 104, _, h => exact ti104
    | 105, _, h => exact ti105
    | 106, _, h => exact ti106
    | 107, _, h => exact nomatch (show false = true from h)
    | 108, _, h => exact ti108
    | 109, _, h => exact ti109
    | 110, _, h => exact ti110
    | 111, _, h => exact ti111
    | 112, _, h => exact ti112
    | 113, _, h => exact ti113
    | 114, _, h => exact ti114
    | 115, _, h => exact ti115
    | 116, _, h => exact ti116
    | 117, _, h => exact ti117
    | 118, _, h => exact ti118
    | 119, _, h => exact ti119
    | 120, _, h => exact ti120
    | 121, _, h => exact ti121
    | 122, _, h => exact ti122
    | 123, _, h => exact ti123
    | 124, _, h => exact ti124
    | 125, _, h => exact ti125
    | 126, _, h => exact ti126
    | 127, _, h => exact ti127
    | 128, _, h => exact ti128
    | 129, _, h => exact ti129
    | 130, _, h => exact ti130
    | 131, _, h => exact ti131
    | 132, _, h => exact ti132
    | 133, _, h => exact ti133
    | 134, _, h => exact nomatch (show false = true from h)
    | 135, _, h => exact nomatch (show false = true from h)
    | 136, _, h => exact nomatch (show false = true from h)
    | 137, _, h => exact ti137
    | 138, _, h => exact ti138
    | 139, _, h => exact ti139
    | 140, _, h => exact ti140
    | 141, _, h => exact ti141
    | 142, _, h => exact ti142
    | 143, _, h => exact ti143
    | 144, _, h => exact ti144
    | 145, _, h => exact ti145
    | 146, _, h => exact ti146
    | 147, _, h => exact nomatch (show false = true from h)
    | 148, _, h => exact nomatch (show false = true from h)
    | 149, _, h => exact nomatch (show false = true from h)
    | 150, _, h => exact nomatch (show false = true from h)
    | 151, _, h => exact nomatch (show false = true from h)
    | 152, _, h => exact nomatch (show false = true from h)
    | 153, _, h => exact nomatch (show false = true from h)
    | 154, _, h => exact nomatch (show false = true from h)
    | 155, _, h => exact nomatch (show false = true from h)
    | 156, _, h => exact nomatch (show false = true from h)
    | 157, _, h => exact nomatch (show false = true from h)
    | 158, _, h => exact nomatch (show false = true from h)
    | 159, _, h => exact nomatch (show false = true from h)
    | n + 160, hlt, _ => exact absurd hlt (Nat.not_lt.2 (Nat.le_add_left 160 n))
  · have h1 : ti t = default := by
      show tget default (tget [] tbl (t / 16)) (t % 16) = default
      rw [tget_out (l := tbl) ((Nat.le_div_iff_mul_le (by decide : 0 < 16)).2 (Nat.not_lt.1 hlt) : 10 ≤ t / 16)]; rfl
    rw [h1] at h; exact nomatch (show false = true from h)
end Go.Proofs.Ytdpmfnndaaplkaa

/- What a walk uses. -/
namespace Go.Dm
open Go Go.RowKit

theorem DC.mono {P : Program} {f : FuncId} {args : List SV} {objs : List Ob} {Q Q' : SV → List Ob → Prop} (h : DC P f args objs Q) (hq : ∀ r os, Q r os → Q' r os) : DC P f args objs Q' := by
  intro w vs Z m fpl h1 h2 h3
  refine (h w vs Z m fpl h1 h2 h3).mono ?_
  rintro e w' ⟨v, r, objs', m', fpl', h4, h5, h6⟩
  exact ⟨v, r, objs', m', fpl', h4, hq _ _ h5, h6⟩

theorem nil_fs {w : World} {Z : Nat → Prop} {m : List OR} {objs : List Ob} {v : Value} (t : Ty) (e : TypeId) (h : SVr w Z m objs .nilsl v) : SVr w Z m objs (.fs t e []) v := by
  simp only [SVr] at h ⊢
  subst h
  exact ⟨rfl, none, 0, rfl, Nat.le_refl _, .inl rfl⟩
/-- A nil slice reads as an empty one. -/
theorem DC.nil1 {P : Program} {f : FuncId} {r : List SV} {objs : List Ob} {Q : SV → List Ob → Prop} {t : Ty} {e : TypeId} (h : DC P f (.fs t e [] :: r) objs Q) : DC P f (.nilsl :: r) objs Q := by
  intro w vs Z m fpl h1 h2 h3
  refine h w vs Z m fpl h1 h2 ?_
  simp only [SVrs] at h3 ⊢
  obtain ⟨v, vs', rfl, h4, h5⟩ := h3
  exact ⟨v, vs', rfl, nil_fs t e h4, h5⟩
theorem DC.nil2 {P : Program} {f : FuncId} {a : SV} {r : List SV} {objs : List Ob} {Q : SV → List Ob → Prop} {t : Ty} {e : TypeId} (h : DC P f (a :: .fs t e [] :: r) objs Q) : DC P f (a :: .nilsl :: r) objs Q := by
  intro w vs Z m fpl h1 h2 h3
  refine h w vs Z m fpl h1 h2 ?_
  simp only [SVrs] at h3 ⊢
  obtain ⟨v, vs', rfl, h4, v2, vs2, rfl, h5, h6⟩ := h3
  exact ⟨v, _, rfl, h4, v2, vs2, rfl, nil_fs t e h5, h6⟩

/-- A law's contract, in the machine. -/
theorem calls_of_dc {P : Program} {f : FuncId} {args : List SV} {vs : List Value} {w : World} (h : DC P f args [] fun r os => os = [] ∧ r = .bool true)
    (ha : SVrs w (fun b => b < w.heap.size) [] [] args vs) : Calls P f vs.toArray w fun e w' => e = .returned (.bool true) ∧ Below w.heap.size w w' := by
  have hz : ∀ b, Zn w [] (fun b => b < w.heap.size) w [] b ↔ b < w.heap.size := by
    intro b; simp only [Zn]; simp; omega
  have hob : ObsR w ([] : List (List Nat)).flatten (fun b => b < w.heap.size) [] [] [] w :=
    ⟨rfl, Nat.le_refl _, by simp, by simp, by simp, Keep.refl _ _⟩
  refine (h w vs (fun b => b < w.heap.size) [] [] (fun b hb => ⟨hb, by simp⟩) hob ?_).mono ?_
  · have e : (Zn w ([] : List (List Nat)).flatten (fun b => b < w.heap.size) w []) = fun b => b < w.heap.size := by funext b; exact propext (hz b)
    rw [e]; exact ha
  · rintro e w' ⟨v, r, objs', m', fpl', rfl, ⟨rfl, rfl⟩, hob', _, _, _, hv⟩
    simp only [SVr] at hv
    subst hv
    refine ⟨rfl, ?_⟩
    have k := hob'.keep
    exact ⟨k.os, k.tape, k.output, k.size, fun b hb => k.block b hb (by simp)⟩

section
variable {P : Program} {W : W} (hW : stdW P = W)
include hW

theorem lex_ok {ti : TypeId → TI} {ops : List Oper} (h : drawOk ti ops = true) : W.lex ti ops := by subst hW; exact h

theorem draw_in {run : St → (St → Prop) → Prop} {Γ : St} {K : St → Prop} (keep : List Nat) (Γs : St) (h : run Γ (fun Γ' => gc keep Γ' = Γs)) (hK : K Γs) : W.draw run Γ K := by
  subst hW; exact ⟨keep, Γs, h, hK⟩

/-- A loop: S: what its state hangs on; enc: the state. -/
theorem loop_in {S : Type} {body : St → (Ex → St → Prop) → Prop} {Γ : St} {Q : Ex → St → Prop} (keep : List Nat) (enc : S → St) (I : S → Prop) (μ : S → Nat) (s0 : S)
    (h0 : gc keep Γ = enc s0) (hI : I s0) (hr : ∀ s, I s → body (enc s) (loopK keep enc I μ s Q)) : W.loop body Γ Q := by
  subst hW; exact .inl ⟨S, keep, enc, I, μ, s0, h0, hI, hr⟩

theorem rounds_in {body : St → (Ex → St → Prop) → Prop} {Γ : St} {Q : Ex → St → Prop} (n : Nat) (h : roundsP body n Γ Q) : W.loop body Γ Q := by
  subst hW; exact .inr ⟨n, h⟩

/-- A call that takes no object with it; lend: it may read the walk's own. -/
theorem call_in {f : FuncId} {args : List SV} {Γ : St} {K : St → SV → Prop} (lend : Bool) (Q : SV → List Ob → Prop) (he : Enters P f) (h4 : okAs (lendArgs W Γ lend [] args) = true) (h5 : DC P f (lendArgs W Γ lend [] args) [] Q)
    (h6 : ∀ r os, Q r os → (lend = true → full r = true ∧ fullOs os = true) ∧ K (Γ.setO (Γ.objs ++ mapO (bk [] Γ.objs.length) os)) (ren (bk [] Γ.objs.length) r)) : W.call f args Γ K := by
  subst hW; exact callP_of_acall ⟨stdW P, fun _ _ _ _ => rfl, fun _ _ _ => rfl, lend, Q, he, h4, h5, h6⟩

/-- A call without objects: what it comes to. -/
theorem call0 {f : FuncId} {args : List SV} {Γ : St} {K : St → SV → Prop} {Q : SV → List Ob → Prop} (he : Enters P f) (h5 : DC P f args [] Q) (h4 : okAs args = true)
    (h6 : ∀ r os, Q r os → K (Γ.setO (Γ.objs ++ mapO (bk [] Γ.objs.length) os)) (ren (bk [] Γ.objs.length) r)) : W.call f args Γ K :=
  call_in hW false Q he h4 h5 fun r os hr => ⟨nofun, h6 r os hr⟩

theorem qcall_in {f : FuncId} {args args' : List SV} {Γ : St} {A : SV → Prop} (sv : SV) (he : Enters P f) (ha : lendArgs W Γ true [] args = args') (h4 : okAs args' = true) (h5 : DC P f args' [] (fun r os => r = sv ∧ os = [])) (h6 : scalV sv = true) (h7 : A sv) : W.qcall f args Γ A := by
  subst hW; subst ha; exact ⟨stdW P, fun _ _ _ _ => rfl, fun _ _ _ => rfl, sv, he, h4, h5, h6, h7⟩

theorem acall_in {f : FuncId} {args : List SV} {Γ : St} {K : St → SV → Prop} (lend : Bool) (Q : SV → List Ob → Prop) (he : Enters P f) (h4 : okAs (lendArgs W Γ lend [] args) = true) (h5 : DC P f (lendArgs W Γ lend [] args) [] Q)
    (h6 : ∀ r os, Q r os → (lend = true → full r = true ∧ fullOs os = true) ∧ K (Γ.setO (Γ.objs ++ mapO (bk [] Γ.objs.length) os)) (ren (bk [] Γ.objs.length) r)) : W.acall f args Γ K := by
  subst hW; exact ⟨stdW P, fun _ _ _ _ => rfl, fun _ _ _ => rfl, lend, Q, he, h4, h5, h6⟩

theorem qcall_b {f : FuncId} {args args' : List SV} {Γ : St} {A : SV → Prop} {p : Bool} (he : Enters P f) (ha : lendArgs W Γ true [] args = args') (h4 : okAs args' = true)
    (h5 : DC P f args' [] (fun r os => os = [] ∧ ∃ b, b = p ∧ r = .bool b)) (h7 : ∀ b, b = p → A (.bool b)) : W.qcall f args Γ A :=
  qcall_in hW (.bool p) he ha h4 (DC.mono h5 (by rintro r os ⟨h1, b, rfl, rfl⟩; exact ⟨rfl, h1⟩)) rfl (h7 p rfl)
theorem qcall_i {f : FuncId} {args args' : List SV} {Γ : St} {A : SV → Prop} {k : IntKind} {p : Int} (he : Enters P f) (ha : lendArgs W Γ true [] args = args') (h4 : okAs args' = true)
    (h5 : DC P f args' [] (fun r os => os = [] ∧ ∃ b, b = p ∧ r = .int k b)) (h7 : ∀ b, b = p → A (.int k b)) : W.qcall f args Γ A :=
  qcall_in hW (.int k p) he ha h4 (DC.mono h5 (by rintro r os ⟨h1, b, rfl, rfl⟩; exact ⟨rfl, h1⟩)) rfl (h7 p rfl)
theorem qcall_s {f : FuncId} {args args' : List SV} {Γ : St} {A : SV → Prop} {p : List UInt8} (he : Enters P f) (ha : lendArgs W Γ true [] args = args') (h4 : okAs args' = true)
    (h5 : DC P f args' [] (fun r os => os = [] ∧ ∃ b, b = p ∧ r = .str b)) (h7 : ∀ b, b = p → A (.str b)) : W.qcall f args Γ A :=
  qcall_in hW (.str p) he ha h4 (DC.mono h5 (by rintro r os ⟨h1, b, rfl, rfl⟩; exact ⟨rfl, h1⟩)) rfl (h7 p rfl)

/-- A call that objects go with. -/
theorem call_ob {f : FuncId} {args : List SV} {Γ : St} {K : St → SV → Prop} (lend : Bool) (sub : List Nat) (Q : SV → List Ob → Prop) (he : Enters P f) (hn : sub.Nodup) (hl : ∀ i ∈ sub, i < Γ.objs.length)
    (h5 : DC P f (rens (idx sub 0) (lendArgs W Γ lend sub args)) (pickO Γ.objs (idx sub 0) sub) Q)
    (h6 : ∀ r os, Q r os → (lend = true → full r = true ∧ fullOs os = true) ∧ K (merge Γ sub os) (ren (bk sub Γ.objs.length) r)) : W.call f args Γ K := by
  subst hW; exact ⟨stdW P, fun _ _ _ _ => rfl, fun _ _ _ => rfl, [], lend, sub, Q, he, hn, hl, h5, h6⟩
end

end Go.Dm

/- Plain facts on lists. -/
namespace Go.Proofs.Ytdpmfnndaaplkaa
open Go Go.Dm

theorem natCast_o (n : Nat) : (@NatCast.natCast Int instNatCastInt n) = Int.ofNat n := rfl

def eqL (xs ys : List Int) : Bool := decide (xs = ys)
def eqLL (xs ys : List (List Int)) : Bool := decide (xs = ys)
theorem eqL_true {xs ys : List Int} : eqL xs ys = true ↔ xs = ys := by simp [eqL]
theorem eqL_false {xs ys : List Int} : eqL xs ys = false ↔ xs ≠ ys := by simp [eqL]
theorem eqLL_true {xs ys : List (List Int)} : eqLL xs ys = true ↔ xs = ys := by simp [eqLL]
theorem eqLL_false {xs ys : List (List Int)} : eqLL xs ys = false ↔ xs ≠ ys := by simp [eqLL]

theorem app1 {α : Type} {out : List α} {n : Nat} {x : α} (h : n = out.length) : (out.drop 0).take n ++ (([x] : List α).drop 0).take 1 = out ++ [x] := by subst h; simp
theorem app1n {α : Type} {out : List α} {n : Nat} {x : α} (h : n = out.length) : n + ((([x] : List α).drop 0).take 1).length = (out ++ [x]).length := by subst h; simp

theorem all_step {α : Type} {xs : List α} {p : α → Bool} {d : α} {k : Nat} (hk : k < xs.length) (h : (xs.take k).all p = true) (hp : p (xs.getD k d) = true) : (xs.take (k + 1)).all p = true := by
  rw [List.take_succ_eq_append_getElem hk, List.all_append, h]
  simp [List.getD_eq_getElem?_getD, List.getElem?_eq_getElem hk] at hp
  simp [hp]

theorem all_fail {α : Type} {xs : List α} {p : α → Bool} {d : α} {k : Nat} (hk : k < xs.length) (hp : p (xs.getD k d) = false) : xs.all p = false := by
  simp [List.getD_eq_getElem?_getD, List.getElem?_eq_getElem hk] at hp
  rw [List.all_eq_false]
  exact ⟨_, List.getElem_mem hk, by simpa using hp⟩

theorem take_all {α : Type} {xs : List α} {k : Nat} (h : xs.length ≤ k) : xs.take k = xs := List.take_of_length_le h

theorem getD_lt' {α : Type} {xs : List α} {d : α} {k : Nat} (hk : k < xs.length) : xs.getD k d = xs[k] := by
  simp [List.getD_eq_getElem?_getD, List.getElem?_eq_getElem hk]

theorem take_snoc {α : Type} {xs : List α} {d : α} {k : Nat} (hk : k < xs.length) : xs.take (k + 1) = xs.take k ++ [xs.getD k d] := by
  rw [List.take_succ_eq_append_getElem hk, getD_lt' hk]

theorem take_eq_step {α : Type} {xs ys : List α} {d : α} {k : Nat} (h1 : k < xs.length) (h2 : k < ys.length) (h : xs.take k = ys.take k) (he : xs.getD k d = ys.getD k d) : xs.take (k + 1) = ys.take (k + 1) := by
  rw [take_snoc (d := d) h1, take_snoc (d := d) h2, h, he]

end Go.Proofs.Ytdpmfnndaaplkaa

/- Small functions of the reference and of the statements. -/
namespace Go.Proofs.Ytdpmfnndaaplkaa
open Go Go.Dm Go.Proofs
theorem mix : Try.prog.follows .mixedOrders = true := by kernel_rfl

theorem within_dc (n a b : Int) : DC Try.prog 104 [.int .i64 n, .int .i64 a, .int .i64 b] [] fun r os => os = [] ∧ ∃ c, c = decide (a ≤ n ∧ n ≤ b) ∧ r = .bool c := by
  refine dc_go (ti := ti) (own := true) tis false mix Try.func104 rfl rfl ?_; intro W hW Q hQ; cbv
  repeat' (first | refine And.intro (by (first | exact trivial | (intro hh; cases hh; done) | exact lex_ok hW (by decide +kernel) | rfl | (clear hQ; subst hW; (((try simp only [stdW, inRange, Ty.T, Ty.dflt, Nat.zero_add, Nat.add_zero, natCast_o, Bool.not_eq_true', Bool.not_eq_false', beq_iff_eq, beq_eq_false_iff_ne, decide_eq_true_eq, decide_eq_false_iff_not, ne_eq, Bool.and_eq_true, Bool.and_eq_false_iff] at *); (try simp only [Int.ofNat_eq_natCast, Int.toNat_natCast] at *))); omega) | (clear hQ; subst hW; (((try simp only [stdW, inRange, Ty.T, Ty.dflt, Nat.zero_add, Nat.add_zero, natCast_o, Bool.not_eq_true', Bool.not_eq_false', beq_iff_eq, beq_eq_false_iff_ne, decide_eq_true_eq, decide_eq_false_iff_not, ne_eq, Bool.and_eq_true, Bool.and_eq_false_iff] at *); (try simp only [Int.ofNat_eq_natCast, Int.toNat_natCast] at *))); (try simp at *); (try omega); done))) ?_ | (intro c hc; cases c <;> cbv))
  all_goals (refine hQ _ _ ⟨rfl, _, ?_, rfl⟩; subst hW; simp [stdW] at *; omega)

theorem l1In_dc (n a b : Int) : DC Try.prog 106 [.int .i64 n, .int .i64 a, .int .i64 b] [] fun r os => os = [] ∧ ∃ c, c = decide (a ≤ n ∧ n ≤ b) ∧ r = .bool c := by
  refine dc_go (ti := ti) (own := true) tis false mix Try.func106 rfl rfl ?_; intro W hW Q hQ; cbv
  repeat' (first | refine And.intro (by (first | exact trivial | (intro hh; cases hh; done) | exact lex_ok hW (by decide +kernel) | rfl | (clear hQ; subst hW; (((try simp only [stdW, inRange, Ty.T, Ty.dflt, Nat.zero_add, Nat.add_zero, natCast_o, Bool.not_eq_true', Bool.not_eq_false', beq_iff_eq, beq_eq_false_iff_ne, decide_eq_true_eq, decide_eq_false_iff_not, ne_eq, Bool.and_eq_true, Bool.and_eq_false_iff] at *); (try simp only [Int.ofNat_eq_natCast, Int.toNat_natCast] at *))); omega) | (clear hQ; subst hW; (((try simp only [stdW, inRange, Ty.T, Ty.dflt, Nat.zero_add, Nat.add_zero, natCast_o, Bool.not_eq_true', Bool.not_eq_false', beq_iff_eq, beq_eq_false_iff_ne, decide_eq_true_eq, decide_eq_false_iff_not, ne_eq, Bool.and_eq_true, Bool.and_eq_false_iff] at *); (try simp only [Int.ofNat_eq_natCast, Int.toNat_natCast] at *))); (try simp at *); (try omega); done))) ?_ | (intro c hc; cases c <;> cbv))
  all_goals (refine hQ _ _ ⟨rfl, _, ?_, rfl⟩; subst hW; simp [stdW] at *; omega)

theorem l1Max_dc (a b : Int) : DC Try.prog 107 [.int .i64 a, .int .i64 b] [] fun r os => os = [] ∧ ∃ c, c = max a b ∧ r = .int .i64 c := by
  refine dc_go (ti := ti) (own := true) tis false mix Try.func107 rfl rfl ?_; intro W hW Q hQ; cbv
  repeat' (first | refine And.intro (by (first | exact trivial | (intro hh; cases hh; done) | exact lex_ok hW (by decide +kernel) | rfl | (clear hQ; subst hW; (((try simp only [stdW, inRange, Ty.T, Ty.dflt, Nat.zero_add, Nat.add_zero, natCast_o, Bool.not_eq_true', Bool.not_eq_false', beq_iff_eq, beq_eq_false_iff_ne, decide_eq_true_eq, decide_eq_false_iff_not, ne_eq, Bool.and_eq_true, Bool.and_eq_false_iff] at *); (try simp only [Int.ofNat_eq_natCast, Int.toNat_natCast] at *))); omega) | (clear hQ; subst hW; (((try simp only [stdW, inRange, Ty.T, Ty.dflt, Nat.zero_add, Nat.add_zero, natCast_o, Bool.not_eq_true', Bool.not_eq_false', beq_iff_eq, beq_eq_false_iff_ne, decide_eq_true_eq, decide_eq_false_iff_not, ne_eq, Bool.and_eq_true, Bool.and_eq_false_iff] at *); (try simp only [Int.ofNat_eq_natCast, Int.toNat_natCast] at *))); (try simp at *); (try omega); done))) ?_ | (intro c hc; cases c <;> cbv))
  all_goals (refine hQ _ _ ⟨rfl, _, ?_, rfl⟩; subst hW; simp [stdW] at *; omega)

theorem size_dc (a : Int) (h : -1000000 ≤ a ∧ a ≤ 1000000) : DC Try.prog 191 [.int .i64 a] [] fun r os => os = [] ∧ ∃ c, c = max a (-a) ∧ r = .int .i64 c := by
  obtain ⟨h1, h2⟩ := h
  refine dc_go (ti := ti) (own := true) tis false mix Try.func191 rfl rfl ?_; intro W hW Q hQ; cbv
  repeat' (first | refine And.intro (by (first | exact trivial | (intro hh; cases hh; done) | exact lex_ok hW (by decide +kernel) | rfl | (clear hQ; subst hW; (((try simp only [stdW, inRange, Ty.T, Ty.dflt, Nat.zero_add, Nat.add_zero, natCast_o, Bool.not_eq_true', Bool.not_eq_false', beq_iff_eq, beq_eq_false_iff_ne, decide_eq_true_eq, decide_eq_false_iff_not, ne_eq, Bool.and_eq_true, Bool.and_eq_false_iff] at *); (try simp only [Int.ofNat_eq_natCast, Int.toNat_natCast] at *))); omega) | (clear hQ; subst hW; (((try simp only [stdW, inRange, Ty.T, Ty.dflt, Nat.zero_add, Nat.add_zero, natCast_o, Bool.not_eq_true', Bool.not_eq_false', beq_iff_eq, beq_eq_false_iff_ne, decide_eq_true_eq, decide_eq_false_iff_not, ne_eq, Bool.and_eq_true, Bool.and_eq_false_iff] at *); (try simp only [Int.ofNat_eq_natCast, Int.toNat_natCast] at *))); (try simp at *); (try omega); done))) ?_ | (intro c hc; cases c <;> cbv))
  all_goals (refine hQ _ _ ⟨rfl, _, ?_, rfl⟩; subst hW; simp [stdW] at *; (try omega))
end Go.Proofs.Ytdpmfnndaaplkaa

/- Letters and words. -/
namespace Go.Proofs.Ytdpmfnndaaplkaa
open Go Go.Dm Go.Proofs

theorem l3Abs_dc (a : Int) (h : -1000000 ≤ a ∧ a ≤ 1000000) : DC Try.prog 182 [.int .i64 a] [] fun r os => os = [] ∧ ∃ c, c = max a (-a) ∧ r = .int .i64 c := by
  obtain ⟨h1, h2⟩ := h
  refine dc_go (ti := ti) (own := true) tis false mix Try.func182 rfl rfl ?_; intro W hW Q hQ; cbv
  repeat' (first | refine And.intro (by (first | exact trivial | (intro hh; cases hh; done) | exact lex_ok hW (by decide +kernel) | rfl | (clear hQ; subst hW; (((try simp only [stdW, inRange, Ty.T, Ty.dflt, Nat.zero_add, Nat.add_zero, natCast_o, Bool.not_eq_true', Bool.not_eq_false', beq_iff_eq, beq_eq_false_iff_ne, decide_eq_true_eq, decide_eq_false_iff_not, ne_eq, Bool.and_eq_true, Bool.and_eq_false_iff] at *); (try simp only [Int.ofNat_eq_natCast, Int.toNat_natCast] at *))); omega) | (clear hQ; subst hW; (((try simp only [stdW, inRange, Ty.T, Ty.dflt, Nat.zero_add, Nat.add_zero, natCast_o, Bool.not_eq_true', Bool.not_eq_false', beq_iff_eq, beq_eq_false_iff_ne, decide_eq_true_eq, decide_eq_false_iff_not, ne_eq, Bool.and_eq_true, Bool.and_eq_false_iff] at *); (try simp only [Int.ofNat_eq_natCast, Int.toNat_natCast] at *))); (try simp at *); (try omega); done))) ?_ | (intro c hc; cases c <;> cbv))
  refine call0 hW Try.call107 (l1Max_dc _ _) rfl ?_
  rintro r os ⟨rfl, c, hc, rfl⟩; cbv
  refine hQ _ _ ⟨rfl, _, ?_, rfl⟩; subst hW; simp [stdW] at *; (try omega)

def isL (x : Int) : Bool := decide (x ≠ 0 ∧ -8 ≤ x ∧ x ≤ 8)
def isW (w : List Int) : Bool := w.all isL && decide (w.length ≤ 24)

theorem l2Letter_dc (x : Int) : DC Try.prog 181 [.int .i64 x] [] fun r os => os = [] ∧ ∃ c, c = isL x ∧ r = .bool c := by
  refine dc_go (ti := ti) (own := true) tis false mix Try.func181 rfl rfl ?_; intro W hW Q hQ; cbv
  refine call0 hW Try.call106 (l1In_dc _ _ _) rfl ?_
  rintro r os ⟨rfl, c, hc, rfl⟩; cases c <;> cbv
  · refine call0 hW Try.call106 (l1In_dc _ _ _) rfl ?_
    rintro r os ⟨rfl, c, hc2, rfl⟩; cases c <;> cbv
    all_goals (refine hQ _ _ ⟨rfl, _, ?_, rfl⟩; subst hW; simp [stdW, isL] at *; (try omega))
  · refine hQ _ _ ⟨rfl, _, ?_, rfl⟩; subst hW; simp [stdW, isL] at *; (try omega)

theorem isLetter_dc (x : Int) : DC Try.prog 190 [.int .i64 x] [] fun r os => os = [] ∧ ∃ c, c = isL x ∧ r = .bool c := by
  refine dc_go (ti := ti) (own := true) tis false mix Try.func190 rfl rfl ?_; intro W hW Q hQ; cbv
  repeat' (first | refine And.intro (by (first | exact trivial | (intro hh; cases hh; done) | exact lex_ok hW (by decide +kernel) | rfl | (clear hQ; subst hW; (((try simp only [stdW, inRange, Ty.T, Ty.dflt, Nat.zero_add, Nat.add_zero, natCast_o, Bool.not_eq_true', Bool.not_eq_false', beq_iff_eq, beq_eq_false_iff_ne, decide_eq_true_eq, decide_eq_false_iff_not, ne_eq, Bool.and_eq_true, Bool.and_eq_false_iff] at *); (try simp only [Int.ofNat_eq_natCast, Int.toNat_natCast] at *))); omega) | (clear hQ; subst hW; (((try simp only [stdW, inRange, Ty.T, Ty.dflt, Nat.zero_add, Nat.add_zero, natCast_o, Bool.not_eq_true', Bool.not_eq_false', beq_iff_eq, beq_eq_false_iff_ne, decide_eq_true_eq, decide_eq_false_iff_not, ne_eq, Bool.and_eq_true, Bool.and_eq_false_iff] at *); (try simp only [Int.ofNat_eq_natCast, Int.toNat_natCast] at *))); (try simp at *); (try omega); done))) ?_ | (intro c hc; cases c <;> cbv))
  · refine hQ _ _ ⟨rfl, _, ?_, rfl⟩; subst hW; simp [stdW, isL] at *; (try omega)
  · refine call0 hW Try.call104 (within_dc _ _ _) rfl ?_
    rintro r os ⟨rfl, c, hc2, rfl⟩; cases c <;> cbv
    all_goals (refine hQ _ _ ⟨rfl, _, ?_, rfl⟩; subst hW; simp [stdW, isL] at *; (try omega))
end Go.Proofs.Ytdpmfnndaaplkaa

/- Words, lists of numbers: loops that look. -/
namespace Go.Proofs.Ytdpmfnndaaplkaa
open Go Go.Dm Go.Proofs

theorem IsWord_dc (w : List Int) (hl : w.length ≤ 4611686018427387904) : DC Try.prog 185 [.fs (.int .i64) 3 w] [] fun r os => os = [] ∧ ∃ c, c = isW w ∧ r = .bool c := by
  refine dc_go (ti := ti) (own := true) tis false mix Try.func185 rfl rfl ?_; intro W hW Q hQ; cbv
  repeat' (first | refine And.intro (by (first | exact trivial | (intro hh; cases hh; done) | exact lex_ok hW (by decide +kernel) | rfl | (clear hQ; subst hW; (((try simp only [stdW, inRange, Ty.T, Ty.dflt, Nat.zero_add, Nat.add_zero, natCast_o, Bool.not_eq_true', Bool.not_eq_false', beq_iff_eq, beq_eq_false_iff_ne, decide_eq_true_eq, decide_eq_false_iff_not, ne_eq, Bool.and_eq_true, Bool.and_eq_false_iff] at *); (try simp only [Int.ofNat_eq_natCast, Int.toNat_natCast] at *))); omega) | (clear hQ; subst hW; (((try simp only [stdW, inRange, Ty.T, Ty.dflt, Nat.zero_add, Nat.add_zero, natCast_o, Bool.not_eq_true', Bool.not_eq_false', beq_iff_eq, beq_eq_false_iff_ne, decide_eq_true_eq, decide_eq_false_iff_not, ne_eq, Bool.and_eq_true, Bool.and_eq_false_iff] at *); (try simp only [Int.ofNat_eq_natCast, Int.toNat_natCast] at *))); (try simp at *); (try omega); done))) ?_ | (intro c hc; cases c <;> cbv))
  refine loop_in hW (S := Nat) [0, 5, 6, 7] (fun k => ⟨18, 0, false, [(0, .fs (.int .i64) 3 w), (5, .fs (.int .i64) 3 w), (6, .int .i64 (W.int (W.len w))), (7, .int .i64 (W.int k))], []⟩) (fun k => k ≤ w.length ∧ (w.take k).all isL = true) (fun k => w.length - k) 0 (by subst hW; rfl) ⟨by omega, by simp⟩ ?_
  rintro k ⟨h1, h2⟩
  cbv
  repeat' (first | refine And.intro (by (first | exact trivial | (intro hh; cases hh; done) | exact lex_ok hW (by decide +kernel) | rfl | (clear hQ; subst hW; (((try simp only [stdW, inRange, Ty.T, Ty.dflt, Nat.zero_add, Nat.add_zero, natCast_o, Bool.not_eq_true', Bool.not_eq_false', beq_iff_eq, beq_eq_false_iff_ne, decide_eq_true_eq, decide_eq_false_iff_not, ne_eq, Bool.and_eq_true, Bool.and_eq_false_iff] at *); (try simp only [Int.ofNat_eq_natCast, Int.toNat_natCast] at *))); omega) | (clear hQ; subst hW; (((try simp only [stdW, inRange, Ty.T, Ty.dflt, Nat.zero_add, Nat.add_zero, natCast_o, Bool.not_eq_true', Bool.not_eq_false', beq_iff_eq, beq_eq_false_iff_ne, decide_eq_true_eq, decide_eq_false_iff_not, ne_eq, Bool.and_eq_true, Bool.and_eq_false_iff] at *); (try simp only [Int.ofNat_eq_natCast, Int.toNat_natCast] at *))); (try simp at *); (try omega); done))) ?_ | (intro c hc; cases c <;> cbv))
  · refine hQ _ _ ⟨rfl, _, ?_, rfl⟩; subst hW; (((try simp only [stdW, inRange, Ty.T, Ty.dflt, Nat.zero_add, Nat.add_zero, natCast_o, Bool.not_eq_true', Bool.not_eq_false', beq_iff_eq, beq_eq_false_iff_ne, decide_eq_true_eq, decide_eq_false_iff_not, ne_eq, Bool.and_eq_true, Bool.and_eq_false_iff] at *); (try simp only [Int.ofNat_eq_natCast, Int.toNat_natCast] at *)))
    unfold isW; rw [decide_eq_false (by omega)]; simp
  · refine hQ _ _ ⟨rfl, _, ?_, rfl⟩; subst hW; (((try simp only [stdW, inRange, Ty.T, Ty.dflt, Nat.zero_add, Nat.add_zero, natCast_o, Bool.not_eq_true', Bool.not_eq_false', beq_iff_eq, beq_eq_false_iff_ne, decide_eq_true_eq, decide_eq_false_iff_not, ne_eq, Bool.and_eq_true, Bool.and_eq_false_iff] at *); (try simp only [Int.ofNat_eq_natCast, Int.toNat_natCast] at *)))
    rw [take_all (by omega)] at h2
    unfold isW; rw [h2, decide_eq_true (by omega)]; rfl
  · refine call0 hW Try.call190 (isLetter_dc _) rfl ?_
    rintro r os ⟨rfl, c, hc2, rfl⟩; cases c <;> cbv
    · refine hQ _ _ ⟨rfl, _, ?_, rfl⟩; subst hW; (((try simp only [stdW, inRange, Ty.T, Ty.dflt, Nat.zero_add, Nat.add_zero, natCast_o, Bool.not_eq_true', Bool.not_eq_false', beq_iff_eq, beq_eq_false_iff_ne, decide_eq_true_eq, decide_eq_false_iff_not, ne_eq, Bool.and_eq_true, Bool.and_eq_false_iff] at *); (try simp only [Int.ofNat_eq_natCast, Int.toNat_natCast] at *)))
      unfold isW; rw [all_fail (by omega) hc2.symm]; rfl
    · repeat' (first | refine And.intro (by (first | exact trivial | (intro hh; cases hh; done) | exact lex_ok hW (by decide +kernel) | rfl | (clear hQ; subst hW; (((try simp only [stdW, inRange, Ty.T, Ty.dflt, Nat.zero_add, Nat.add_zero, natCast_o, Bool.not_eq_true', Bool.not_eq_false', beq_iff_eq, beq_eq_false_iff_ne, decide_eq_true_eq, decide_eq_false_iff_not, ne_eq, Bool.and_eq_true, Bool.and_eq_false_iff] at *); (try simp only [Int.ofNat_eq_natCast, Int.toNat_natCast] at *))); omega) | (clear hQ; subst hW; (((try simp only [stdW, inRange, Ty.T, Ty.dflt, Nat.zero_add, Nat.add_zero, natCast_o, Bool.not_eq_true', Bool.not_eq_false', beq_iff_eq, beq_eq_false_iff_ne, decide_eq_true_eq, decide_eq_false_iff_not, ne_eq, Bool.and_eq_true, Bool.and_eq_false_iff] at *); (try simp only [Int.ofNat_eq_natCast, Int.toNat_natCast] at *))); (try simp at *); (try omega); done))) ?_ | (intro c hc; cases c <;> cbv))
      subst hW
      refine ⟨k + 1, rfl, ?_, ?_⟩ <;> (((try simp only [stdW, inRange, Ty.T, Ty.dflt, Nat.zero_add, Nat.add_zero, natCast_o, Bool.not_eq_true', Bool.not_eq_false', beq_iff_eq, beq_eq_false_iff_ne, decide_eq_true_eq, decide_eq_false_iff_not, ne_eq, Bool.and_eq_true, Bool.and_eq_false_iff] at *); (try simp only [Int.ofNat_eq_natCast, Int.toNat_natCast] at *)))
      · exact ⟨by omega, all_step (by omega) h2 hc2.symm⟩
      · omega

theorem spec_IsWord_dc (w : List Int) (hl : w.length ≤ 4611686018427387904) : DC Try.prog 150 [.fs (.int .i64) 3 w] [] fun r os => os = [] ∧ ∃ c, c = isW w ∧ r = .bool c := by
  refine dc_go (ti := ti) (own := true) tis false mix Try.func150 rfl rfl ?_; intro W hW Q hQ; cbv
  repeat' (first | refine And.intro (by (first | exact trivial | (intro hh; cases hh; done) | exact lex_ok hW (by decide +kernel) | rfl | (clear hQ; subst hW; (((try simp only [stdW, inRange, Ty.T, Ty.dflt, Nat.zero_add, Nat.add_zero, natCast_o, Bool.not_eq_true', Bool.not_eq_false', beq_iff_eq, beq_eq_false_iff_ne, decide_eq_true_eq, decide_eq_false_iff_not, ne_eq, Bool.and_eq_true, Bool.and_eq_false_iff] at *); (try simp only [Int.ofNat_eq_natCast, Int.toNat_natCast] at *))); omega) | (clear hQ; subst hW; (((try simp only [stdW, inRange, Ty.T, Ty.dflt, Nat.zero_add, Nat.add_zero, natCast_o, Bool.not_eq_true', Bool.not_eq_false', beq_iff_eq, beq_eq_false_iff_ne, decide_eq_true_eq, decide_eq_false_iff_not, ne_eq, Bool.and_eq_true, Bool.and_eq_false_iff] at *); (try simp only [Int.ofNat_eq_natCast, Int.toNat_natCast] at *))); (try simp at *); (try omega); done))) ?_ | (intro c hc; cases c <;> cbv))
  refine loop_in hW (S := Nat) [0, 3] (fun k => ⟨19, 0, false, [(0, .fs (.int .i64) 3 w), (3, .int .i64 (W.int k))], []⟩) (fun k => k ≤ w.length ∧ (w.take k).all isL = true) (fun k => w.length - k) 0 (by subst hW; rfl) ⟨by omega, by simp⟩ ?_
  rintro k ⟨h1, h2⟩
  cbv
  repeat' (first | refine And.intro (by (first | exact trivial | (intro hh; cases hh; done) | exact lex_ok hW (by decide +kernel) | rfl | (clear hQ; subst hW; (((try simp only [stdW, inRange, Ty.T, Ty.dflt, Nat.zero_add, Nat.add_zero, natCast_o, Bool.not_eq_true', Bool.not_eq_false', beq_iff_eq, beq_eq_false_iff_ne, decide_eq_true_eq, decide_eq_false_iff_not, ne_eq, Bool.and_eq_true, Bool.and_eq_false_iff] at *); (try simp only [Int.ofNat_eq_natCast, Int.toNat_natCast] at *))); omega) | (clear hQ; subst hW; (((try simp only [stdW, inRange, Ty.T, Ty.dflt, Nat.zero_add, Nat.add_zero, natCast_o, Bool.not_eq_true', Bool.not_eq_false', beq_iff_eq, beq_eq_false_iff_ne, decide_eq_true_eq, decide_eq_false_iff_not, ne_eq, Bool.and_eq_true, Bool.and_eq_false_iff] at *); (try simp only [Int.ofNat_eq_natCast, Int.toNat_natCast] at *))); (try simp at *); (try omega); done))) ?_ | (intro c hc; cases c <;> cbv))
  · refine hQ _ _ ⟨rfl, _, ?_, rfl⟩; subst hW; (((try simp only [stdW, inRange, Ty.T, Ty.dflt, Nat.zero_add, Nat.add_zero, natCast_o, Bool.not_eq_true', Bool.not_eq_false', beq_iff_eq, beq_eq_false_iff_ne, decide_eq_true_eq, decide_eq_false_iff_not, ne_eq, Bool.and_eq_true, Bool.and_eq_false_iff] at *); (try simp only [Int.ofNat_eq_natCast, Int.toNat_natCast] at *)))
    unfold isW; rw [decide_eq_false (by omega)]; simp
  · refine hQ _ _ ⟨rfl, _, ?_, rfl⟩; subst hW; (((try simp only [stdW, inRange, Ty.T, Ty.dflt, Nat.zero_add, Nat.add_zero, natCast_o, Bool.not_eq_true', Bool.not_eq_false', beq_iff_eq, beq_eq_false_iff_ne, decide_eq_true_eq, decide_eq_false_iff_not, ne_eq, Bool.and_eq_true, Bool.and_eq_false_iff] at *); (try simp only [Int.ofNat_eq_natCast, Int.toNat_natCast] at *)))
    rw [take_all (by omega)] at h2
    unfold isW; rw [h2, decide_eq_true (by omega)]; rfl
  · refine call0 hW Try.call181 (l2Letter_dc _) rfl ?_
    rintro r os ⟨rfl, c, hc2, rfl⟩; cases c <;> cbv
    · refine hQ _ _ ⟨rfl, _, ?_, rfl⟩; subst hW; (((try simp only [stdW, inRange, Ty.T, Ty.dflt, Nat.zero_add, Nat.add_zero, natCast_o, Bool.not_eq_true', Bool.not_eq_false', beq_iff_eq, beq_eq_false_iff_ne, decide_eq_true_eq, decide_eq_false_iff_not, ne_eq, Bool.and_eq_true, Bool.and_eq_false_iff] at *); (try simp only [Int.ofNat_eq_natCast, Int.toNat_natCast] at *)))
      unfold isW; rw [all_fail (by omega) hc2.symm]; rfl
    · repeat' (first | refine And.intro (by (first | exact trivial | (intro hh; cases hh; done) | exact lex_ok hW (by decide +kernel) | rfl | (clear hQ; subst hW; (((try simp only [stdW, inRange, Ty.T, Ty.dflt, Nat.zero_add, Nat.add_zero, natCast_o, Bool.not_eq_true', Bool.not_eq_false', beq_iff_eq, beq_eq_false_iff_ne, decide_eq_true_eq, decide_eq_false_iff_not, ne_eq, Bool.and_eq_true, Bool.and_eq_false_iff] at *); (try simp only [Int.ofNat_eq_natCast, Int.toNat_natCast] at *))); omega) | (clear hQ; subst hW; (((try simp only [stdW, inRange, Ty.T, Ty.dflt, Nat.zero_add, Nat.add_zero, natCast_o, Bool.not_eq_true', Bool.not_eq_false', beq_iff_eq, beq_eq_false_iff_ne, decide_eq_true_eq, decide_eq_false_iff_not, ne_eq, Bool.and_eq_true, Bool.and_eq_false_iff] at *); (try simp only [Int.ofNat_eq_natCast, Int.toNat_natCast] at *))); (try simp at *); (try omega); done))) ?_ | (intro c hc; cases c <;> cbv))
      subst hW
      refine ⟨k + 1, rfl, ?_, ?_⟩ <;> (((try simp only [stdW, inRange, Ty.T, Ty.dflt, Nat.zero_add, Nat.add_zero, natCast_o, Bool.not_eq_true', Bool.not_eq_false', beq_iff_eq, beq_eq_false_iff_ne, decide_eq_true_eq, decide_eq_false_iff_not, ne_eq, Bool.and_eq_true, Bool.and_eq_false_iff] at *); (try simp only [Int.ofNat_eq_natCast, Int.toNat_natCast] at *)))
      · exact ⟨by omega, all_step (by omega) h2 hc2.symm⟩
      · omega

theorem eqIntS_dc (xs ys : List Int) (hx : xs.length ≤ 4611686018427387904) : DC Try.prog 111 [.fs (.int .i64) 3 xs, .fs (.int .i64) 3 ys] [] fun r os => os = [] ∧ ∃ b, b = eqL xs ys ∧ r = .bool b := by
  refine dc_go (ti := ti) (own := true) tis false mix Try.func111 rfl rfl ?_; intro W hW Q hQ; cbv
  repeat' (first | refine And.intro (by (first | exact trivial | (intro hh; cases hh; done) | exact lex_ok hW (by decide +kernel) | rfl | (clear hQ; subst hW; (((try simp only [stdW, inRange, Ty.T, Ty.dflt, Nat.zero_add, Nat.add_zero, natCast_o, Bool.not_eq_true', Bool.not_eq_false', beq_iff_eq, beq_eq_false_iff_ne, decide_eq_true_eq, decide_eq_false_iff_not, ne_eq, Bool.and_eq_true, Bool.and_eq_false_iff] at *); (try simp only [Int.ofNat_eq_natCast, Int.toNat_natCast] at *))); omega) | (clear hQ; subst hW; (((try simp only [stdW, inRange, Ty.T, Ty.dflt, Nat.zero_add, Nat.add_zero, natCast_o, Bool.not_eq_true', Bool.not_eq_false', beq_iff_eq, beq_eq_false_iff_ne, decide_eq_true_eq, decide_eq_false_iff_not, ne_eq, Bool.and_eq_true, Bool.and_eq_false_iff] at *); (try simp only [Int.ofNat_eq_natCast, Int.toNat_natCast] at *))); (try simp at *); (try omega); done))) ?_ | (intro c hc; cases c <;> cbv))
  · refine loop_in hW (S := Nat) [5, 0, 1] (fun k => ⟨26, 0, false, [(5, .int .i64 (W.int k)), (0, .fs (.int .i64) 3 xs), (1, .fs (.int .i64) 3 ys)], []⟩) (fun k => k ≤ xs.length ∧ xs.take k = ys.take k) (fun k => xs.length - k) 0 (by subst hW; rfl) ⟨by omega, by simp⟩ ?_
    rintro k ⟨h1, h3⟩
    cbv
    repeat' (first | refine And.intro (by (first | exact trivial | (intro hh; cases hh; done) | exact lex_ok hW (by decide +kernel) | rfl | (clear hQ; subst hW; (((try simp only [stdW, inRange, Ty.T, Ty.dflt, Nat.zero_add, Nat.add_zero, natCast_o, Bool.not_eq_true', Bool.not_eq_false', beq_iff_eq, beq_eq_false_iff_ne, decide_eq_true_eq, decide_eq_false_iff_not, ne_eq, Bool.and_eq_true, Bool.and_eq_false_iff] at *); (try simp only [Int.ofNat_eq_natCast, Int.toNat_natCast] at *))); omega) | (clear hQ; subst hW; (((try simp only [stdW, inRange, Ty.T, Ty.dflt, Nat.zero_add, Nat.add_zero, natCast_o, Bool.not_eq_true', Bool.not_eq_false', beq_iff_eq, beq_eq_false_iff_ne, decide_eq_true_eq, decide_eq_false_iff_not, ne_eq, Bool.and_eq_true, Bool.and_eq_false_iff] at *); (try simp only [Int.ofNat_eq_natCast, Int.toNat_natCast] at *))); (try simp at *); (try omega); done))) ?_ | (intro c hc; cases c <;> cbv))
    · refine hQ _ _ ⟨rfl, _, ?_, rfl⟩; subst hW; (((try simp only [stdW, inRange, Ty.T, Ty.dflt, Nat.zero_add, Nat.add_zero, natCast_o, Bool.not_eq_true', Bool.not_eq_false', beq_iff_eq, beq_eq_false_iff_ne, decide_eq_true_eq, decide_eq_false_iff_not, ne_eq, Bool.and_eq_true, Bool.and_eq_false_iff] at *); (try simp only [Int.ofNat_eq_natCast, Int.toNat_natCast] at *)))
      rw [take_all (by omega), take_all (by omega)] at h3
      exact (eqL_true.2 h3).symm
    · subst hW
      refine ⟨k + 1, rfl, ?_, ?_⟩ <;> (((try simp only [stdW, inRange, Ty.T, Ty.dflt, Nat.zero_add, Nat.add_zero, natCast_o, Bool.not_eq_true', Bool.not_eq_false', beq_iff_eq, beq_eq_false_iff_ne, decide_eq_true_eq, decide_eq_false_iff_not, ne_eq, Bool.and_eq_true, Bool.and_eq_false_iff] at *); (try simp only [Int.ofNat_eq_natCast, Int.toNat_natCast] at *)))
      · exact ⟨by omega, take_eq_step (by omega) (by omega) h3 (by assumption)⟩
      · omega
    · refine hQ _ _ ⟨rfl, _, ?_, rfl⟩; subst hW; (((try simp only [stdW, inRange, Ty.T, Ty.dflt, Nat.zero_add, Nat.add_zero, natCast_o, Bool.not_eq_true', Bool.not_eq_false', beq_iff_eq, beq_eq_false_iff_ne, decide_eq_true_eq, decide_eq_false_iff_not, ne_eq, Bool.and_eq_true, Bool.and_eq_false_iff] at *); (try simp only [Int.ofNat_eq_natCast, Int.toNat_natCast] at *)))
      symm; rw [eqL_false]; rintro rfl; contradiction
  · refine hQ _ _ ⟨rfl, _, ?_, rfl⟩; subst hW; (((try simp only [stdW, inRange, Ty.T, Ty.dflt, Nat.zero_add, Nat.add_zero, natCast_o, Bool.not_eq_true', Bool.not_eq_false', beq_iff_eq, beq_eq_false_iff_ne, decide_eq_true_eq, decide_eq_false_iff_not, ne_eq, Bool.and_eq_true, Bool.and_eq_false_iff] at *); (try simp only [Int.ofNat_eq_natCast, Int.toNat_natCast] at *)))
    symm; rw [eqL_false]; rintro rfl; contradiction
end Go.Proofs.Ytdpmfnndaaplkaa

/- Marks: a list is written with numbers in a row, and holds them. -/
namespace Go.Proofs.Ytdpmfnndaaplkaa
open Go Go.Dm Go.Proofs

/-- n numbers in a row. -/
def runFrom (k : Int) : Nat → List Int
  | 0 => []
  | n + 1 => k :: runFrom (k + 1) n
theorem runFrom_len (k : Int) (n : Nat) : (runFrom k n).length = n := by
  induction n generalizing k with
  | zero => rfl
  | succ n ih => simp [runFrom, ih]
theorem runFrom_get (n : Nat) : ∀ (k : Int) (i : Nat), i < n → (runFrom k n).getD i 0 = k + i := by
  induction n with
  | zero => intro k i h; omega
  | succ n ih =>
    intro k i h
    cases i with
    | zero => simp [runFrom]
    | succ i =>
      have := ih (k + 1) i (by omega)
      simp only [runFrom, List.getD_cons_succ, this]
      omega
theorem runFrom_take (n : Nat) : ∀ (k : Int) (i : Nat), i ≤ n → (runFrom k n).take i = runFrom k i := by
  induction n with
  | zero => intro k i h; obtain rfl : i = 0 := by omega
            rfl
  | succ n ih =>
    intro k i h
    cases i with
    | zero => rfl
    | succ i => simp [runFrom, ih (k + 1) i (by omega)]
theorem runFrom_snoc (n : Nat) : ∀ k : Int, runFrom k (n + 1) = runFrom k n ++ [k + n] := by
  induction n with
  | zero => intro k; simp [runFrom]
  | succ n ih => intro k; rw [runFrom, ih]; simp [runFrom]; omega

def heldS (k : Int) (xs : List Int) : Int := if xs = runFrom k xs.length then k + xs.length else -1

theorem heldIntS_dc (xs : List Int) (k : Int) (hx : xs.length ≤ 4611686018427387904) (hk : 0 ≤ k ∧ k ≤ 1152921504606846976) : DC Try.prog 113 [.fs (.int .i64) 3 xs, .int .i64 k] [] fun r os => os = [] ∧ ∃ c, c = heldS k xs ∧ r = .int .i64 c := by
  obtain ⟨hk1, hk2⟩ := hk
  refine dc_go (ti := ti) (own := true) tis false mix Try.func113 rfl rfl ?_; intro W hW Q hQ; cbv
  refine loop_in hW (S := Int × Int) [0, 1, 5] (fun s => ⟨21, 0, false, [(0, .fs (.int .i64) 3 xs), (1, .int .i64 s.1), (5, .int .i64 s.2)], []⟩) (fun s => 0 ≤ s.2 ∧ s.2 ≤ xs.length ∧ s.1 = k + s.2 ∧ xs.take s.2.toNat = runFrom k s.2.toNat) (fun s => xs.length - s.2.toNat) (k, 0) (by subst hW; rfl) ⟨by simp, by simp, by simp, rfl⟩ ?_
  rintro ⟨q, i⟩ ⟨h1, h2, h3, h4⟩
  simp only at h1 h2 h3 h4
  cbv
  repeat' (first | refine And.intro (by (first | exact trivial | (intro hh; cases hh; done) | exact lex_ok hW (by decide +kernel) | rfl | (clear hQ; subst hW; (((try simp only [stdW, inRange, Ty.T, Ty.dflt, Nat.zero_add, Nat.add_zero, natCast_o, Bool.not_eq_true', Bool.not_eq_false', beq_iff_eq, beq_eq_false_iff_ne, decide_eq_true_eq, decide_eq_false_iff_not, ne_eq, Bool.and_eq_true, Bool.and_eq_false_iff] at *); (try simp only [Int.ofNat_eq_natCast, Int.toNat_natCast] at *))); omega) | (clear hQ; subst hW; (((try simp only [stdW, inRange, Ty.T, Ty.dflt, Nat.zero_add, Nat.add_zero, natCast_o, Bool.not_eq_true', Bool.not_eq_false', beq_iff_eq, beq_eq_false_iff_ne, decide_eq_true_eq, decide_eq_false_iff_not, ne_eq, Bool.and_eq_true, Bool.and_eq_false_iff] at *); (try simp only [Int.ofNat_eq_natCast, Int.toNat_natCast] at *))); (try simp at *); (try omega); done))) ?_ | (intro c hc; cases c <;> cbv))
  · refine hQ _ _ ⟨rfl, _, ?_, rfl⟩; subst hW; (((try simp only [stdW, inRange, Ty.T, Ty.dflt, Nat.zero_add, Nat.add_zero, natCast_o, Bool.not_eq_true', Bool.not_eq_false', beq_iff_eq, beq_eq_false_iff_ne, decide_eq_true_eq, decide_eq_false_iff_not, ne_eq, Bool.and_eq_true, Bool.and_eq_false_iff] at *); (try simp only [Int.ofNat_eq_natCast, Int.toNat_natCast] at *)))
    obtain rfl : i = xs.length := by omega
    rw [Int.toNat_natCast, take_all (Nat.le_refl _)] at h4
    unfold heldS; rw [← h4, if_pos rfl]; omega
  · subst hW
    refine ⟨(_, _), rfl, ?_, ?_⟩ <;> (((try simp only [stdW, inRange, Ty.T, Ty.dflt, Nat.zero_add, Nat.add_zero, natCast_o, Bool.not_eq_true', Bool.not_eq_false', beq_iff_eq, beq_eq_false_iff_ne, decide_eq_true_eq, decide_eq_false_iff_not, ne_eq, Bool.and_eq_true, Bool.and_eq_false_iff] at *); (try simp only [Int.ofNat_eq_natCast, Int.toNat_natCast] at *)))
    · refine ⟨by omega, by omega, by omega, ?_⟩
      rw [show (i + 1).toNat = i.toNat + 1 by omega, take_snoc (d := 0) (by omega), h4, runFrom_snoc]
      have : xs.getD i.toNat 0 = q := by assumption
      rw [this]; congr 2; omega
    · omega
  · refine hQ _ _ ⟨rfl, _, ?_, rfl⟩; subst hW; (((try simp only [stdW, inRange, Ty.T, Ty.dflt, Nat.zero_add, Nat.add_zero, natCast_o, Bool.not_eq_true', Bool.not_eq_false', beq_iff_eq, beq_eq_false_iff_ne, decide_eq_true_eq, decide_eq_false_iff_not, ne_eq, Bool.and_eq_true, Bool.and_eq_false_iff] at *); (try simp only [Int.ofNat_eq_natCast, Int.toNat_natCast] at *)))
    unfold heldS; rw [if_neg]
    intro he
    have : (runFrom k xs.length).getD i.toNat 0 = q := by rw [runFrom_get _ _ _ (by omega)]; omega
    rw [← he] at this
    contradiction
end Go.Proofs.Ytdpmfnndaaplkaa

/- Marks in lists of lists. -/
namespace Go.Proofs.Ytdpmfnndaaplkaa
open Go Go.Dm Go.Proofs

theorem runFrom_app (a : Nat) : ∀ (k : Int) (b : Nat), runFrom k (a + b) = runFrom k a ++ runFrom (k + a) b := by
  induction a with
  | zero => intro k b; simp [runFrom]
  | succ a ih =>
    intro k b
    rw [show a + 1 + b = (a + b) + 1 by omega]
    simp only [runFrom, ih, List.cons_append]
    congr 2
    simp; congr 1; omega

theorem take_flat {α : Type} {xss : List (List α)} {d : List α} {k : Nat} (hk : k < xss.length) : (xss.take (k + 1)).flatten = (xss.take k).flatten ++ xss.getD k d := by
  rw [take_snoc (d := d) hk]; simp

theorem row_len {α : Type} {xss : List (List α)} {d : List α} {k : Nat} (hk : k < xss.length) : (xss.take k).flatten.length + (xss.getD k d).length ≤ xss.flatten.length := by
  have h : xss.flatten = (xss.take (k + 1)).flatten ++ (xss.drop (k + 1)).flatten := by rw [← List.flatten_append, List.take_append_drop]
  rw [h, take_flat (d := d) hk]
  simp only [List.length_append]; omega

theorem eqIntSS_dc (xs ys : List (List Int)) (hx : xs.length ≤ 4611686018427387904) (hr : xs.flatten.length ≤ 4611686018427387904) : DC Try.prog 37 [.fs (.sl 3 (.int .i64)) 51 xs, .fs (.sl 3 (.int .i64)) 51 ys] [] fun r os => os = [] ∧ ∃ b, b = eqLL xs ys ∧ r = .bool b := by
  refine dc_go (ti := ti) (own := true) tis false mix Try.func37 rfl rfl ?_; intro W hW Q hQ; cbv
  repeat' (first | refine And.intro (by (first | exact trivial | (intro hh; cases hh; done) | exact lex_ok hW (by decide +kernel) | rfl | (clear hQ; subst hW; (((try simp only [stdW, inRange, Ty.T, Ty.dflt, Nat.zero_add, Nat.add_zero, natCast_o, Bool.not_eq_true', Bool.not_eq_false', beq_iff_eq, beq_eq_false_iff_ne, decide_eq_true_eq, decide_eq_false_iff_not, ne_eq, Bool.and_eq_true, Bool.and_eq_false_iff] at *); (try simp only [Int.ofNat_eq_natCast, Int.toNat_natCast] at *))); omega) | (clear hQ; subst hW; (((try simp only [stdW, inRange, Ty.T, Ty.dflt, Nat.zero_add, Nat.add_zero, natCast_o, Bool.not_eq_true', Bool.not_eq_false', beq_iff_eq, beq_eq_false_iff_ne, decide_eq_true_eq, decide_eq_false_iff_not, ne_eq, Bool.and_eq_true, Bool.and_eq_false_iff] at *); (try simp only [Int.ofNat_eq_natCast, Int.toNat_natCast] at *))); (try simp at *); (try omega); done))) ?_ | (intro c hc; cases c <;> cbv))
  · refine loop_in hW (S := Int) [5, 0, 1] (fun i => ⟨27, 0, false, [(5, .int .i64 i), (0, .fs (.sl 3 (.int .i64)) 51 xs), (1, .fs (.sl 3 (.int .i64)) 51 ys)], []⟩) (fun i => 0 ≤ i ∧ i ≤ xs.length ∧ xs.take i.toNat = ys.take i.toNat) (fun i => xs.length - i.toNat) 0 (by subst hW; rfl) ⟨by simp, by simp, by simp⟩ ?_
    rintro i ⟨h1, h2, h3⟩
    cbv
    repeat' (first | refine And.intro (by (first | exact trivial | (intro hh; cases hh; done) | exact lex_ok hW (by decide +kernel) | rfl | (clear hQ; subst hW; (((try simp only [stdW, inRange, Ty.T, Ty.dflt, Nat.zero_add, Nat.add_zero, natCast_o, Bool.not_eq_true', Bool.not_eq_false', beq_iff_eq, beq_eq_false_iff_ne, decide_eq_true_eq, decide_eq_false_iff_not, ne_eq, Bool.and_eq_true, Bool.and_eq_false_iff] at *); (try simp only [Int.ofNat_eq_natCast, Int.toNat_natCast] at *))); omega) | (clear hQ; subst hW; (((try simp only [stdW, inRange, Ty.T, Ty.dflt, Nat.zero_add, Nat.add_zero, natCast_o, Bool.not_eq_true', Bool.not_eq_false', beq_iff_eq, beq_eq_false_iff_ne, decide_eq_true_eq, decide_eq_false_iff_not, ne_eq, Bool.and_eq_true, Bool.and_eq_false_iff] at *); (try simp only [Int.ofNat_eq_natCast, Int.toNat_natCast] at *))); (try simp at *); (try omega); done))) ?_ | (intro c hc; cases c <;> cbv))
    · refine hQ _ _ ⟨rfl, _, ?_, rfl⟩; subst hW; (((try simp only [stdW, inRange, Ty.T, Ty.dflt, Nat.zero_add, Nat.add_zero, natCast_o, Bool.not_eq_true', Bool.not_eq_false', beq_iff_eq, beq_eq_false_iff_ne, decide_eq_true_eq, decide_eq_false_iff_not, ne_eq, Bool.and_eq_true, Bool.and_eq_false_iff] at *); (try simp only [Int.ofNat_eq_natCast, Int.toNat_natCast] at *)))
      rw [take_all (by omega), take_all (by omega)] at h3
      exact (eqLL_true.2 h3).symm
    · have hb : ((W.get (.sl 3 (.int .i64)) xs (W.nat i)).length : Nat) ≤ 4611686018427387904 := by
        subst hW; (((try simp only [stdW, inRange, Ty.T, Ty.dflt, Nat.zero_add, Nat.add_zero, natCast_o, Bool.not_eq_true', Bool.not_eq_false', beq_iff_eq, beq_eq_false_iff_ne, decide_eq_true_eq, decide_eq_false_iff_not, ne_eq, Bool.and_eq_true, Bool.and_eq_false_iff] at *); (try simp only [Int.ofNat_eq_natCast, Int.toNat_natCast] at *)))
        have := row_len (xss := xs) (d := []) (k := i.toNat) (by omega)
        omega
      refine qcall_b hW Try.call111 rfl rfl (eqIntS_dc _ _ hb) ?_
      intro b hb; cases b <;> cbv
      · refine hQ _ _ ⟨rfl, _, ?_, rfl⟩; subst hW; (((try simp only [stdW, inRange, Ty.T, Ty.dflt, Nat.zero_add, Nat.add_zero, natCast_o, Bool.not_eq_true', Bool.not_eq_false', beq_iff_eq, beq_eq_false_iff_ne, decide_eq_true_eq, decide_eq_false_iff_not, ne_eq, Bool.and_eq_true, Bool.and_eq_false_iff] at *); (try simp only [Int.ofNat_eq_natCast, Int.toNat_natCast] at *)))
        symm; rw [eqLL_false]; rintro rfl; exact eqL_false.1 hb.symm rfl
      · repeat' (first | refine And.intro (by (first | exact trivial | (intro hh; cases hh; done) | exact lex_ok hW (by decide +kernel) | rfl | (clear hQ; subst hW; (((try simp only [stdW, inRange, Ty.T, Ty.dflt, Nat.zero_add, Nat.add_zero, natCast_o, Bool.not_eq_true', Bool.not_eq_false', beq_iff_eq, beq_eq_false_iff_ne, decide_eq_true_eq, decide_eq_false_iff_not, ne_eq, Bool.and_eq_true, Bool.and_eq_false_iff] at *); (try simp only [Int.ofNat_eq_natCast, Int.toNat_natCast] at *))); omega) | (clear hQ; subst hW; (((try simp only [stdW, inRange, Ty.T, Ty.dflt, Nat.zero_add, Nat.add_zero, natCast_o, Bool.not_eq_true', Bool.not_eq_false', beq_iff_eq, beq_eq_false_iff_ne, decide_eq_true_eq, decide_eq_false_iff_not, ne_eq, Bool.and_eq_true, Bool.and_eq_false_iff] at *); (try simp only [Int.ofNat_eq_natCast, Int.toNat_natCast] at *))); (try simp at *); (try omega); done))) ?_ | (intro c hc; cases c <;> cbv))
        subst hW
        refine ⟨_, rfl, ?_, ?_⟩ <;> (((try simp only [stdW, inRange, Ty.T, Ty.dflt, Nat.zero_add, Nat.add_zero, natCast_o, Bool.not_eq_true', Bool.not_eq_false', beq_iff_eq, beq_eq_false_iff_ne, decide_eq_true_eq, decide_eq_false_iff_not, ne_eq, Bool.and_eq_true, Bool.and_eq_false_iff] at *); (try simp only [Int.ofNat_eq_natCast, Int.toNat_natCast] at *)))
        · refine ⟨by omega, by omega, ?_⟩
          rw [show (i + 1).toNat = i.toNat + 1 by omega]
          exact take_eq_step (d := []) (by omega) (by omega) h3 (eqL_true.1 hb.symm)
        · omega
  · refine hQ _ _ ⟨rfl, _, ?_, rfl⟩; subst hW; (((try simp only [stdW, inRange, Ty.T, Ty.dflt, Nat.zero_add, Nat.add_zero, natCast_o, Bool.not_eq_true', Bool.not_eq_false', beq_iff_eq, beq_eq_false_iff_ne, decide_eq_true_eq, decide_eq_false_iff_not, ne_eq, Bool.and_eq_true, Bool.and_eq_false_iff] at *); (try simp only [Int.ofNat_eq_natCast, Int.toNat_natCast] at *)))
    symm; rw [eqLL_false]; rintro rfl; contradiction

def heldSS (k : Int) (xs : List (List Int)) : Int := if xs.flatten = runFrom k xs.flatten.length then k + xs.flatten.length else -1

theorem heldIntSS_dc (xs : List (List Int)) (k : Int) (hx : xs.length ≤ 4611686018427387904) (hr : xs.flatten.length ≤ 576460752303423488) (hk : 0 ≤ k ∧ k ≤ 1048576) : DC Try.prog 39 [.fs (.sl 3 (.int .i64)) 51 xs, .int .i64 k] [] fun r os => os = [] ∧ ∃ c, c = heldSS k xs ∧ r = .int .i64 c := by
  obtain ⟨hk1, hk2⟩ := hk
  refine dc_go (ti := ti) (own := true) tis false mix Try.func39 rfl rfl ?_; intro W hW Q hQ; cbv
  refine loop_in hW (S := Int × Int) [0, 1, 5] (fun s => ⟨21, 0, false, [(0, .fs (.sl 3 (.int .i64)) 51 xs), (1, .int .i64 s.1), (5, .int .i64 s.2)], []⟩) (fun s => 0 ≤ s.2 ∧ s.2 ≤ xs.length ∧ s.1 = k + (xs.take s.2.toNat).flatten.length ∧ (xs.take s.2.toNat).flatten = runFrom k (xs.take s.2.toNat).flatten.length) (fun s => xs.length - s.2.toNat) (k, 0) (by subst hW; rfl) ⟨by simp, by simp, by simp, rfl⟩ ?_
  rintro ⟨q, i⟩ ⟨h1, h2, h3, h4⟩
  simp only at h1 h2 h3 h4
  cbv
  repeat' (first | refine And.intro (by (first | exact trivial | (intro hh; cases hh; done) | exact lex_ok hW (by decide +kernel) | rfl | (clear hQ; subst hW; (((try simp only [stdW, inRange, Ty.T, Ty.dflt, Nat.zero_add, Nat.add_zero, natCast_o, Bool.not_eq_true', Bool.not_eq_false', beq_iff_eq, beq_eq_false_iff_ne, decide_eq_true_eq, decide_eq_false_iff_not, ne_eq, Bool.and_eq_true, Bool.and_eq_false_iff] at *); (try simp only [Int.ofNat_eq_natCast, Int.toNat_natCast] at *))); omega) | (clear hQ; subst hW; (((try simp only [stdW, inRange, Ty.T, Ty.dflt, Nat.zero_add, Nat.add_zero, natCast_o, Bool.not_eq_true', Bool.not_eq_false', beq_iff_eq, beq_eq_false_iff_ne, decide_eq_true_eq, decide_eq_false_iff_not, ne_eq, Bool.and_eq_true, Bool.and_eq_false_iff] at *); (try simp only [Int.ofNat_eq_natCast, Int.toNat_natCast] at *))); (try simp at *); (try omega); done))) ?_ | (intro c hc; cases c <;> cbv))
  · refine hQ _ _ ⟨rfl, _, ?_, rfl⟩; subst hW; (((try simp only [stdW, inRange, Ty.T, Ty.dflt, Nat.zero_add, Nat.add_zero, natCast_o, Bool.not_eq_true', Bool.not_eq_false', beq_iff_eq, beq_eq_false_iff_ne, decide_eq_true_eq, decide_eq_false_iff_not, ne_eq, Bool.and_eq_true, Bool.and_eq_false_iff] at *); (try simp only [Int.ofNat_eq_natCast, Int.toNat_natCast] at *)))
    rw [take_all (by omega)] at h4 h3
    unfold heldSS; rw [← h4, if_pos rfl]; omega
  · have hb : ((W.get (.sl 3 (.int .i64)) xs (W.nat i)).length : Nat) ≤ 4611686018427387904 ∧ q ≤ 1152921504606846976 ∧ 0 ≤ q := by
      subst hW; (((try simp only [stdW, inRange, Ty.T, Ty.dflt, Nat.zero_add, Nat.add_zero, natCast_o, Bool.not_eq_true', Bool.not_eq_false', beq_iff_eq, beq_eq_false_iff_ne, decide_eq_true_eq, decide_eq_false_iff_not, ne_eq, Bool.and_eq_true, Bool.and_eq_false_iff] at *); (try simp only [Int.ofNat_eq_natCast, Int.toNat_natCast] at *)))
      have := row_len (xss := xs) (d := []) (k := i.toNat) (by omega)
      omega
    refine call0 hW Try.call113 (heldIntS_dc _ _ hb.1 ⟨hb.2.2, hb.2.1⟩) rfl ?_
    rintro r os ⟨rfl, c, hc2, rfl⟩; cbv
    repeat' (first | refine And.intro (by (first | exact trivial | (intro hh; cases hh; done) | exact lex_ok hW (by decide +kernel) | rfl | (clear hQ; subst hW; (((try simp only [stdW, inRange, Ty.T, Ty.dflt, Nat.zero_add, Nat.add_zero, natCast_o, Bool.not_eq_true', Bool.not_eq_false', beq_iff_eq, beq_eq_false_iff_ne, decide_eq_true_eq, decide_eq_false_iff_not, ne_eq, Bool.and_eq_true, Bool.and_eq_false_iff] at *); (try simp only [Int.ofNat_eq_natCast, Int.toNat_natCast] at *))); omega) | (clear hQ; subst hW; (((try simp only [stdW, inRange, Ty.T, Ty.dflt, Nat.zero_add, Nat.add_zero, natCast_o, Bool.not_eq_true', Bool.not_eq_false', beq_iff_eq, beq_eq_false_iff_ne, decide_eq_true_eq, decide_eq_false_iff_not, ne_eq, Bool.and_eq_true, Bool.and_eq_false_iff] at *); (try simp only [Int.ofNat_eq_natCast, Int.toNat_natCast] at *))); (try simp at *); (try omega); done))) ?_ | (intro c hc; cases c <;> cbv))
    · subst hW
      refine ⟨(_, _), rfl, ?_, ?_⟩ <;> (((try simp only [stdW, inRange, Ty.T, Ty.dflt, Nat.zero_add, Nat.add_zero, natCast_o, Bool.not_eq_true', Bool.not_eq_false', beq_iff_eq, beq_eq_false_iff_ne, decide_eq_true_eq, decide_eq_false_iff_not, ne_eq, Bool.and_eq_true, Bool.and_eq_false_iff] at *); (try simp only [Int.ofNat_eq_natCast, Int.toNat_natCast] at *)))
      · have hlt : i.toNat < xs.length := by omega
        refine ⟨by omega, by omega, ?_, ?_⟩
        · rw [show (i + 1).toNat = i.toNat + 1 by omega, take_flat (d := []) hlt]
          unfold heldS at hc2; by_cases he : xs.getD i.toNat [] = runFrom q (xs.getD i.toNat []).length
          · rw [if_pos he] at hc2; simp only [List.length_append]; omega
          · rw [if_neg he] at hc2; omega
        · rw [show (i + 1).toNat = i.toNat + 1 by omega, take_flat (d := []) hlt]
          unfold heldS at hc2; by_cases he : xs.getD i.toNat [] = runFrom q (xs.getD i.toNat []).length
          · rw [List.length_append, runFrom_app, ← h4]
            congr 1
            rw [← h3]; exact he
          · rw [if_neg he] at hc2; omega
      · omega
    · refine hQ _ _ ⟨rfl, _, ?_, rfl⟩; subst hW; (((try simp only [stdW, inRange, Ty.T, Ty.dflt, Nat.zero_add, Nat.add_zero, natCast_o, Bool.not_eq_true', Bool.not_eq_false', beq_iff_eq, beq_eq_false_iff_ne, decide_eq_true_eq, decide_eq_false_iff_not, ne_eq, Bool.and_eq_true, Bool.and_eq_false_iff] at *); (try simp only [Int.ofNat_eq_natCast, Int.toNat_natCast] at *)))
      have hlt : i.toNat < xs.length := by omega
      unfold heldSS; rw [if_neg]
      intro he
      unfold heldS at hc2
      have hl := row_len (xss := xs) (d := []) hlt
      by_cases hne : xs.getD i.toNat [] = runFrom q (xs.getD i.toNat []).length
      · rw [if_pos hne] at hc2; omega
      · apply hne
        have h5 : (xs.take (i.toNat + 1)).flatten = runFrom k ((xs.take (i.toNat + 1)).flatten.length) := by
          have e : xs.flatten = (xs.take (i.toNat + 1)).flatten ++ (xs.drop (i.toNat + 1)).flatten := by rw [← List.flatten_append, List.take_append_drop]
          have e2 : (xs.take (i.toNat + 1)).flatten = xs.flatten.take (xs.take (i.toNat + 1)).flatten.length := by rw [e]; simp
          have e3 : (xs.take (i.toNat + 1)).flatten.length ≤ xs.flatten.length := by rw [e]; simp
          conv => lhs; rw [e2]
          rw [he, runFrom_take _ _ _ e3]
        rw [take_flat (d := []) hlt, List.length_append, runFrom_app, ← h4] at h5
        have h6 := List.append_cancel_left h5
        rw [← h3] at h6; exact h6

def markSS (k : Int) : List (List Int) → List (List Int)
  | [] => []
  | x :: r => runFrom k x.length :: markSS (k + x.length) r
theorem markSS_flat : ∀ (xs : List (List Int)) (k : Int), (markSS k xs).flatten = runFrom k xs.flatten.length
  | [], k => rfl
  | x :: r, k => by simp only [markSS, List.flatten_cons, List.length_append, markSS_flat r, runFrom_app]
theorem markSS_len : ∀ (xs : List (List Int)) (k : Int), (markSS k xs).length = xs.length
  | [], k => rfl
  | x :: r, k => by simp only [markSS, List.length_cons, markSS_len r]
theorem markSS_snoc : ∀ (xs : List (List Int)) (k : Int) (x : List Int), markSS k (xs ++ [x]) = markSS k xs ++ [runFrom (k + xs.flatten.length) x.length]
  | [], k, x => by simp [markSS]
  | y :: r, k, x => by
    simp only [List.cons_append, markSS, markSS_snoc r, List.flatten_cons, List.length_append]
    congr 4; simp; omega

theorem markIntS_row (xss : List (List Int)) (j n : Nat) (k : Int) (hj : j < xss.length) (hn : n = (xss.getD j []).length) (hl : n ≤ 4611686018427387904) (hk : 0 ≤ k ∧ k ≤ 1152921504606846976) :
    DC Try.prog 112 [.row 0 j 0 n, .int .i64 k] [.lst (.sl 3 (.int .i64)) 51 1 xss none] fun r os => ∃ c yss, c = k + n ∧ r = .int .i64 c ∧ yss = xss.set j (runFrom k n) ∧ os = [.lst (.sl 3 (.int .i64)) 51 1 yss none] := by
  obtain ⟨hk1, hk2⟩ := hk
  refine dc_go (ti := ti) (own := true) tis false mix Try.func112 rfl rfl ?_; intro W hW Q hQ; cbv
  repeat' (first | refine And.intro (by (first | exact trivial | (intro hh; cases hh; done) | exact lex_ok hW (by decide +kernel) | rfl | (clear hQ; subst hW; (((try simp only [stdW, inRange, Ty.T, Ty.dflt, Nat.zero_add, Nat.add_zero, natCast_o, Bool.not_eq_true', Bool.not_eq_false', beq_iff_eq, beq_eq_false_iff_ne, decide_eq_true_eq, decide_eq_false_iff_not, ne_eq, Bool.and_eq_true, Bool.and_eq_false_iff] at *); (try simp only [Int.ofNat_eq_natCast, Int.toNat_natCast] at *))); omega) | (clear hQ; subst hW; (((try simp only [stdW, inRange, Ty.T, Ty.dflt, Nat.zero_add, Nat.add_zero, natCast_o, Bool.not_eq_true', Bool.not_eq_false', beq_iff_eq, beq_eq_false_iff_ne, decide_eq_true_eq, decide_eq_false_iff_not, ne_eq, Bool.and_eq_true, Bool.and_eq_false_iff] at *); (try simp only [Int.ofNat_eq_natCast, Int.toNat_natCast] at *))); (try simp at *); (try omega); done))) ?_ | (intro c hc; cases c <;> cbv))
  refine loop_in hW (S := Int × Int × List (List Int)) [0, 1, 5] (fun s => ⟨19, 1, false, [(0, .row 0 j 0 n), (1, .int .i64 s.1), (5, .int .i64 s.2.1)], [.lst (.sl 3 (.int .i64)) 51 1 s.2.2 none]⟩) (fun s => 0 ≤ s.2.1 ∧ s.2.1 ≤ n ∧ s.1 = k + s.2.1 ∧ s.2.2 = xss.set j (runFrom k s.2.1.toNat ++ (xss.getD j []).drop s.2.1.toNat) ∧ (s.2.2.getD j []).length = n) (fun s => n - s.2.1.toNat) (k, 0, xss) (by subst hW; rfl) ⟨by simp, by simp, by simp, by simp [runFrom, List.getD_eq_getElem?_getD, List.getElem?_eq_getElem hj], hn.symm⟩ ?_
  rintro ⟨q, i, yss⟩ ⟨h1, h2, h3, h4, h5⟩
  simp only at h1 h2 h3 h4 h5
  cbv
  repeat' (first | refine And.intro (by (first | exact trivial | (intro hh; cases hh; done) | exact lex_ok hW (by decide +kernel) | rfl | (clear hQ; subst hW; (((try simp only [stdW, inRange, Ty.T, Ty.dflt, Nat.zero_add, Nat.add_zero, natCast_o, Bool.not_eq_true', Bool.not_eq_false', beq_iff_eq, beq_eq_false_iff_ne, decide_eq_true_eq, decide_eq_false_iff_not, ne_eq, Bool.and_eq_true, Bool.and_eq_false_iff] at *); (try simp only [Int.ofNat_eq_natCast, Int.toNat_natCast] at *))); omega) | (clear hQ; subst hW; (((try simp only [stdW, inRange, Ty.T, Ty.dflt, Nat.zero_add, Nat.add_zero, natCast_o, Bool.not_eq_true', Bool.not_eq_false', beq_iff_eq, beq_eq_false_iff_ne, decide_eq_true_eq, decide_eq_false_iff_not, ne_eq, Bool.and_eq_true, Bool.and_eq_false_iff] at *); (try simp only [Int.ofNat_eq_natCast, Int.toNat_natCast] at *))); (try simp at *); (try omega); done))) ?_ | (intro c hc; cases c <;> cbv))
  · refine hQ _ _ ⟨_, _, ?_, rfl, ?_, rfl⟩ <;> subst hW <;> (((try simp only [stdW, inRange, Ty.T, Ty.dflt, Nat.zero_add, Nat.add_zero, natCast_o, Bool.not_eq_true', Bool.not_eq_false', beq_iff_eq, beq_eq_false_iff_ne, decide_eq_true_eq, decide_eq_false_iff_not, ne_eq, Bool.and_eq_true, Bool.and_eq_false_iff] at *); (try simp only [Int.ofNat_eq_natCast, Int.toNat_natCast] at *)))
    · omega
    · obtain rfl : i = n := by omega
      rw [h4, List.drop_of_length_le (by rw [← hn]; simp)]
      simp
  · subst hW
    refine ⟨(_, _, _), rfl, ?_, ?_⟩ <;> (((try simp only [stdW, inRange, Ty.T, Ty.dflt, Nat.zero_add, Nat.add_zero, natCast_o, Bool.not_eq_true', Bool.not_eq_false', beq_iff_eq, beq_eq_false_iff_ne, decide_eq_true_eq, decide_eq_false_iff_not, ne_eq, Bool.and_eq_true, Bool.and_eq_false_iff] at *); (try simp only [Int.ofNat_eq_natCast, Int.toNat_natCast] at *)))
    · have hlt : i.toNat < (xss.getD j []).length := by omega
      have hg : yss.getD j [] = runFrom k i.toNat ++ (xss.getD j []).drop i.toNat := by rw [h4]; simp [List.getD_eq_getElem?_getD, hj]
      refine ⟨by omega, by omega, by omega, ?_, ?_⟩
      · rw [hg, h4, List.set_set, show (i + 1).toNat = i.toNat + 1 by omega, runFrom_snoc]
        congr 1
        rw [List.drop_eq_getElem_cons hlt, List.set_append_right _ _ (by simp [runFrom_len])]
        simp only [runFrom_len, Nat.sub_self, List.set_cons_zero, List.append_assoc, List.singleton_append]
        congr 2; omega
      · rw [hg]
        have : j < yss.length := by rw [h4]; simpa using hj
        rw [← hg]
        simpa [List.getD_eq_getElem?_getD, List.getElem?_set_self this] using h5
    · omega

theorem markIntSS_dc (xss : List (List Int)) (n : Nat) (k : Int) (hn : n = xss.length) (hl : n ≤ 4611686018427387904) (hr : xss.flatten.length ≤ 576460752303423488) (hk : 0 ≤ k ∧ k ≤ 1048576) :
    DC Try.prog 38 [.view 0 0 n, .int .i64 k] [.lst (.sl 3 (.int .i64)) 51 1 xss none] fun r os => ∃ c yss, c = k + xss.flatten.length ∧ r = .int .i64 c ∧ yss = markSS k xss ∧ os = [.lst (.sl 3 (.int .i64)) 51 1 yss none] := by
  obtain ⟨hk1, hk2⟩ := hk
  refine dc_go (ti := ti) (own := true) tis false mix Try.func38 rfl rfl ?_; intro W hW Q hQ; cbv
  repeat' (first | refine And.intro (by (first | exact trivial | (intro hh; cases hh; done) | exact lex_ok hW (by decide +kernel) | rfl | (clear hQ; subst hW; (((try simp only [stdW, inRange, Ty.T, Ty.dflt, Nat.zero_add, Nat.add_zero, natCast_o, Bool.not_eq_true', Bool.not_eq_false', beq_iff_eq, beq_eq_false_iff_ne, decide_eq_true_eq, decide_eq_false_iff_not, ne_eq, Bool.and_eq_true, Bool.and_eq_false_iff] at *); (try simp only [Int.ofNat_eq_natCast, Int.toNat_natCast] at *))); omega) | (clear hQ; subst hW; (((try simp only [stdW, inRange, Ty.T, Ty.dflt, Nat.zero_add, Nat.add_zero, natCast_o, Bool.not_eq_true', Bool.not_eq_false', beq_iff_eq, beq_eq_false_iff_ne, decide_eq_true_eq, decide_eq_false_iff_not, ne_eq, Bool.and_eq_true, Bool.and_eq_false_iff] at *); (try simp only [Int.ofNat_eq_natCast, Int.toNat_natCast] at *))); (try simp at *); (try omega); done))) ?_ | (intro c hc; cases c <;> cbv))
  refine loop_in hW (S := Int × Int × List (List Int)) [0, 1, 5] (fun s => ⟨19, 1, false, [(0, .view 0 0 n), (1, .int .i64 s.1), (5, .int .i64 s.2.1)], [.lst (.sl 3 (.int .i64)) 51 1 s.2.2 none]⟩) (fun s => 0 ≤ s.2.1 ∧ s.2.1 ≤ n ∧ s.1 = k + (xss.take s.2.1.toNat).flatten.length ∧ s.2.2 = markSS k (xss.take s.2.1.toNat) ++ xss.drop s.2.1.toNat ∧ s.2.2.length = n) (fun s => n - s.2.1.toNat) (k, 0, xss) (by subst hW; rfl) ⟨by simp, by simp, by simp, by simp [markSS], hn.symm⟩ ?_
  rintro ⟨q, i, yss⟩ ⟨h1, h2, h3, h4, h5⟩
  simp only at h1 h2 h3 h4 h5
  cbv
  repeat' (first | refine And.intro (by (first | exact trivial | (intro hh; cases hh; done) | exact lex_ok hW (by decide +kernel) | rfl | (clear hQ; subst hW; (((try simp only [stdW, inRange, Ty.T, Ty.dflt, Nat.zero_add, Nat.add_zero, natCast_o, Bool.not_eq_true', Bool.not_eq_false', beq_iff_eq, beq_eq_false_iff_ne, decide_eq_true_eq, decide_eq_false_iff_not, ne_eq, Bool.and_eq_true, Bool.and_eq_false_iff] at *); (try simp only [Int.ofNat_eq_natCast, Int.toNat_natCast] at *))); omega) | (clear hQ; subst hW; (((try simp only [stdW, inRange, Ty.T, Ty.dflt, Nat.zero_add, Nat.add_zero, natCast_o, Bool.not_eq_true', Bool.not_eq_false', beq_iff_eq, beq_eq_false_iff_ne, decide_eq_true_eq, decide_eq_false_iff_not, ne_eq, Bool.and_eq_true, Bool.and_eq_false_iff] at *); (try simp only [Int.ofNat_eq_natCast, Int.toNat_natCast] at *))); (try simp at *); (try omega); done))) ?_ | (intro c hc; cases c <;> cbv))
  · refine hQ _ _ ⟨_, _, ?_, rfl, ?_, rfl⟩ <;> subst hW <;> (((try simp only [stdW, inRange, Ty.T, Ty.dflt, Nat.zero_add, Nat.add_zero, natCast_o, Bool.not_eq_true', Bool.not_eq_false', beq_iff_eq, beq_eq_false_iff_ne, decide_eq_true_eq, decide_eq_false_iff_not, ne_eq, Bool.and_eq_true, Bool.and_eq_false_iff] at *); (try simp only [Int.ofNat_eq_natCast, Int.toNat_natCast] at *)))
    · rw [h3, take_all (by omega)]
    · rw [h4, take_all (by omega), List.drop_of_length_le (by omega), List.append_nil]
  · have hf : W.addN 0 (W.nat i) = i.toNat ∧ i.toNat < xss.length ∧ W.len (W.get (.sl 3 (.int .i64)) yss (W.addN 0 (W.nat i))) = (yss.getD i.toNat []).length := by
      subst hW; (((try simp only [stdW, inRange, Ty.T, Ty.dflt, Nat.zero_add, Nat.add_zero, natCast_o, Bool.not_eq_true', Bool.not_eq_false', beq_iff_eq, beq_eq_false_iff_ne, decide_eq_true_eq, decide_eq_false_iff_not, ne_eq, Bool.and_eq_true, Bool.and_eq_false_iff] at *); (try simp only [Int.ofNat_eq_natCast, Int.toNat_natCast] at *))); refine ⟨?_, ?_, ?_⟩ <;> first | trivial | omega
    obtain ⟨hf1, hf2, hf3⟩ := hf
    have hg : yss.getD i.toNat [] = xss.getD i.toNat [] := by
      rw [h4, List.getD_eq_getElem?_getD, List.getElem?_append_right (by rw [markSS_len]; simp; omega), markSS_len]
      simp [List.getD_eq_getElem?_getD, Nat.min_eq_left (Nat.le_of_lt hf2)]
    have hlen := row_len (xss := xss) (d := []) hf2
    ((try simp only [natCast_o] at *); (try simp only [Int.ofNat_eq_natCast] at *))
    refine call_ob hW true [0] _ Try.call112 (by simp) (by simp) (markIntS_row yss (W.addN 0 (W.nat i)) (W.len (W.get (.sl 3 (.int .i64)) yss (W.addN 0 (W.nat i)))) q (by rw [hf1]; omega) (by rw [hf3, hf1]) (by rw [hf3, hg]; omega) ⟨by omega, by omega⟩) ?_
    rintro r os ⟨c, zss, hc2, rfl, hz, rfl⟩
    refine ⟨fun _ => ⟨rfl, rfl⟩, ?_⟩
    cbv
    repeat' (first | refine And.intro (by (first | exact trivial | (intro hh; cases hh; done) | exact lex_ok hW (by decide +kernel) | rfl | (clear hQ; subst hW; (((try simp only [stdW, inRange, Ty.T, Ty.dflt, Nat.zero_add, Nat.add_zero, natCast_o, Bool.not_eq_true', Bool.not_eq_false', beq_iff_eq, beq_eq_false_iff_ne, decide_eq_true_eq, decide_eq_false_iff_not, ne_eq, Bool.and_eq_true, Bool.and_eq_false_iff] at *); (try simp only [Int.ofNat_eq_natCast, Int.toNat_natCast] at *))); omega) | (clear hQ; subst hW; (((try simp only [stdW, inRange, Ty.T, Ty.dflt, Nat.zero_add, Nat.add_zero, natCast_o, Bool.not_eq_true', Bool.not_eq_false', beq_iff_eq, beq_eq_false_iff_ne, decide_eq_true_eq, decide_eq_false_iff_not, ne_eq, Bool.and_eq_true, Bool.and_eq_false_iff] at *); (try simp only [Int.ofNat_eq_natCast, Int.toNat_natCast] at *))); (try simp at *); (try omega); done))) ?_ | (intro c hc; cases c <;> cbv))
    subst hW
    refine ⟨(_, _, _), rfl, ?_, ?_⟩ <;> (((try simp only [stdW, inRange, Ty.T, Ty.dflt, Nat.zero_add, Nat.add_zero, natCast_o, Bool.not_eq_true', Bool.not_eq_false', beq_iff_eq, beq_eq_false_iff_ne, decide_eq_true_eq, decide_eq_false_iff_not, ne_eq, Bool.and_eq_true, Bool.and_eq_false_iff] at *); (try simp only [Int.ofNat_eq_natCast, Int.toNat_natCast] at *)))
    · rw [hg] at hz hc2
      refine ⟨by omega, by omega, ?_, ?_, ?_⟩
      · rw [show (i + 1).toNat = i.toNat + 1 by omega, take_flat (d := []) hf2]; simp only [List.length_append]; omega
      · rw [hz, h4, show (i + 1).toNat = i.toNat + 1 by omega, take_snoc (d := []) hf2, markSS_snoc, List.set_append_right _ _ (by rw [markSS_len]; simp; omega), markSS_len, List.drop_eq_getElem_cons hf2]
        simp only [List.length_take, Nat.min_eq_left (Nat.le_of_lt hf2), Nat.sub_self, List.set_cons_zero, List.append_assoc, List.singleton_append]
        congr 3
      · rw [hz]; simpa using h5
    · omega
end Go.Proofs.Ytdpmfnndaaplkaa

/- Texts are cut at a byte. -/
namespace Go.Proofs.Ytdpmfnndaaplkaa
open Go Go.Dm Go.Proofs

def splitB (c : Int) : List UInt8 → List (List UInt8)
  | [] => [[]]
  | x :: r => if (x.toNat : Int) = c then [] :: splitB c r else match splitB c r with | h :: t => (x :: h) :: t | [] => []

theorem splitB_ne (c : Int) (s : List UInt8) : splitB c s ≠ [] := by
  induction s with
  | nil => simp [splitB]
  | cons x r ih =>
    simp only [splitB]
    split
    · simp
    · split
      · simp
      · rename_i h; exact absurd h ih

theorem splitB_seg (c : Int) : ∀ (a b : List UInt8), (∀ x ∈ a, (x.toNat : Int) ≠ c) → ∀ h t, splitB c b = h :: t → splitB c (a ++ b) = (a ++ h) :: t
  | [], b, _, h, t, hb => hb
  | x :: a, b, ha, h, t, hb => by
    have ih := splitB_seg c a b (fun y hy => ha y (by simp [hy])) h t hb
    simp only [List.cons_append, splitB, ih]
    rw [if_neg (ha x (by simp))]

theorem splitB_sep (c : Int) (a b : List UInt8) (x : UInt8) (ha : ∀ y ∈ a, (y.toNat : Int) ≠ c) (hx : (x.toNat : Int) = c) : splitB c (a ++ x :: b) = a :: splitB c b := by
  have := splitB_seg c a (x :: b) ha [] (splitB c b) (by simp [splitB, hx])
  simpa using this

theorem splitB_one (c : Int) (a : List UInt8) (ha : ∀ y ∈ a, (y.toNat : Int) ≠ c) : splitB c a = [a] := by
  have := splitB_seg c a [] ha [] [] rfl
  simpa using this

theorem drop_cut {s : List UInt8} {f i : Nat} (hf : f ≤ i) (hi : i < s.length) : s.drop f = (s.drop f).take (i - f) ++ s.getD i 0 :: s.drop (i + 1) := by
  conv => lhs; rw [← List.take_append_drop (i - f) (s.drop f)]
  congr 1
  rw [List.drop_drop, show f + (i - f) = i by omega, List.drop_eq_getElem_cons hi]
  simp [List.getD_eq_getElem?_getD, hi]

theorem seg_snoc {s : List UInt8} {f i : Nat} {c : Int} (hf : f ≤ i) (hi : i < s.length) (h : ∀ y ∈ (s.drop f).take (i - f), (y.toNat : Int) ≠ c) (hx : ((s.getD i 0).toNat : Int) ≠ c) : ∀ y ∈ (s.drop f).take (i + 1 - f), (y.toNat : Int) ≠ c := by
  have e : (s.drop f).take (i + 1 - f) = (s.drop f).take (i - f) ++ [s.getD i 0] := by
    rw [show i + 1 - f = (i - f) + 1 by omega, take_snoc (d := 0) (by simp; omega)]
    congr 2
    simp [List.getD_eq_getElem?_getD, show f + (i - f) = i by omega]
  rw [e]
  intro y hy
  rcases List.mem_append.1 hy with hy | hy
  · exact h y hy
  · simp at hy; subst hy; exact hx

/-- Where the cutting stands. -/
structure Cut (c : Int) (s : List UInt8) (out : List (List UInt8)) (f i : Nat) : Prop where
  fi : f ≤ i
  il : i ≤ s.length
  eq : splitB c s = out ++ splitB c (s.drop f)
  no : ∀ y ∈ (s.drop f).take (i - f), (y.toNat : Int) ≠ c
  ol : out.length ≤ i
theorem Cut.start (c : Int) (s : List UInt8) : Cut c s [] 0 0 := ⟨Nat.le_refl _, by omega, by simp, by simp, by simp⟩
theorem Cut.sep {c : Int} {s : List UInt8} {out : List (List UInt8)} {f i : Nat} (h : Cut c s out f i) (hi : i < s.length) (hx : ((s.getD i 0).toNat : Int) = c) : Cut c s (out ++ [(s.drop f).take (i - f)]) (i + 1) (i + 1) where
  fi := Nat.le_refl _
  il := hi
  eq := by
    rw [h.eq, List.append_assoc]
    congr 1
    conv => lhs; rw [drop_cut h.fi hi]
    exact splitB_sep c _ _ _ h.no hx
  no := by simp
  ol := by have := h.ol; simp; omega
theorem Cut.on {c : Int} {s : List UInt8} {out : List (List UInt8)} {f i : Nat} (h : Cut c s out f i) (hi : i < s.length) (hx : ((s.getD i 0).toNat : Int) ≠ c) : Cut c s out f (i + 1) where
  fi := by have := h.fi; omega
  il := hi
  eq := h.eq
  no := seg_snoc h.fi hi h.no hx
  ol := by have := h.ol; omega
theorem Cut.done {c : Int} {s : List UInt8} {out : List (List UInt8)} {f i : Nat} (h : Cut c s out f i) (hi : i = s.length) : splitB c s = out ++ [(s.drop f).take (i - f)] := by
  have e : (s.drop f).take (i - f) = s.drop f := List.take_of_length_le (by simp; omega)
  rw [h.eq, e]
  congr 1
  have := h.no
  rw [e] at this
  exact splitB_one c _ this

theorem SplitByte_dc (s : List UInt8) (c : Int) (hs : s.length ≤ 1048576) : DC Try.prog 156 [.str s, .int .u8 c] [] fun r os => ∃ n out, out = splitB c s ∧ n = out.length ∧ r = .view 0 0 n ∧ os = [.lst .str 9 0 out none] := by
  refine dc_go (ti := ti) (own := true) tis false mix Try.func156 rfl rfl ?_; intro W hW Q hQ; cbv
  repeat' (first | refine And.intro (by (first | exact trivial | (intro hh; cases hh; done) | exact lex_ok hW (by decide +kernel) | rfl | (clear hQ; subst hW; (((try simp only [stdW, inRange, Ty.T, Ty.dflt, Nat.zero_add, Nat.add_zero, natCast_o, Bool.not_eq_true', Bool.not_eq_false', beq_iff_eq, beq_eq_false_iff_ne, decide_eq_true_eq, decide_eq_false_iff_not, ne_eq, Bool.and_eq_true, Bool.and_eq_false_iff] at *); (try simp only [Int.ofNat_eq_natCast, Int.toNat_natCast] at *))); omega) | (clear hQ; subst hW; (((try simp only [stdW, inRange, Ty.T, Ty.dflt, Nat.zero_add, Nat.add_zero, natCast_o, Bool.not_eq_true', Bool.not_eq_false', beq_iff_eq, beq_eq_false_iff_ne, decide_eq_true_eq, decide_eq_false_iff_not, ne_eq, Bool.and_eq_true, Bool.and_eq_false_iff] at *); (try simp only [Int.ofNat_eq_natCast, Int.toNat_natCast] at *))); (try simp at *); (try omega); done))) ?_ | (intro c hc; cases c <;> cbv))
  refine loop_in hW (S := List (List UInt8) × Nat × Int × Int) [0, 1, 5, 6, 10, 11] (fun x => ⟨35, 0, false, [(0, .str s), (1, .int .u8 c), (5, .view 0 0 x.2.1), (6, .int .i64 x.2.2.1), (10, .int .i64 (W.int (W.len s))), (11, .int .i64 x.2.2.2)], [.lst .str 9 0 x.1 none]⟩)
    (fun x => x.2.1 = x.1.length ∧ 0 ≤ x.2.2.1 ∧ 0 ≤ x.2.2.2 ∧ Cut c s x.1 x.2.2.1.toNat x.2.2.2.toNat) (fun x => s.length - x.2.2.2.toNat) ([], 0, 0, 0) (by subst hW; rfl) ⟨rfl, by simp, by simp, Cut.start c s⟩ ?_
  rintro ⟨out, n, f, i⟩ ⟨h1, h2, h3, h4⟩
  simp only at h1 h2 h3 h4
  have k1 := h4.fi
  have k2 := h4.il
  have k3 := h4.ol
  cbv
  repeat' (first | refine And.intro (by (first | exact trivial | (intro hh; cases hh; done) | exact lex_ok hW (by decide +kernel) | rfl | (clear hQ; subst hW; (((try simp only [stdW, inRange, Ty.T, Ty.dflt, Nat.zero_add, Nat.add_zero, natCast_o, Bool.not_eq_true', Bool.not_eq_false', beq_iff_eq, beq_eq_false_iff_ne, decide_eq_true_eq, decide_eq_false_iff_not, ne_eq, Bool.and_eq_true, Bool.and_eq_false_iff] at *); (try simp only [Int.ofNat_eq_natCast, Int.toNat_natCast] at *))); omega) | (clear hQ; subst hW; (((try simp only [stdW, inRange, Ty.T, Ty.dflt, Nat.zero_add, Nat.add_zero, natCast_o, Bool.not_eq_true', Bool.not_eq_false', beq_iff_eq, beq_eq_false_iff_ne, decide_eq_true_eq, decide_eq_false_iff_not, ne_eq, Bool.and_eq_true, Bool.and_eq_false_iff] at *); (try simp only [Int.ofNat_eq_natCast, Int.toNat_natCast] at *))); (try simp at *); (try omega); done))) ?_ | (intro c hc; cases c <;> cbv))
  · refine hQ _ _ ⟨_, _, ?_, ?_, rfl, rfl⟩ <;> subst hW <;> (((try simp only [stdW, inRange, Ty.T, Ty.dflt, Nat.zero_add, Nat.add_zero, natCast_o, Bool.not_eq_true', Bool.not_eq_false', beq_iff_eq, beq_eq_false_iff_ne, decide_eq_true_eq, decide_eq_false_iff_not, ne_eq, Bool.and_eq_true, Bool.and_eq_false_iff] at *); (try simp only [Int.ofNat_eq_natCast, Int.toNat_natCast] at *)))
    · rw [app1 h1, h4.done (by omega)]; congr 3; omega
    · rw [app1 h1, app1n h1]
  · subst hW
    refine ⟨(_, _, _, _), rfl, ?_, ?_⟩ <;> (((try simp only [stdW, inRange, Ty.T, Ty.dflt, Nat.zero_add, Nat.add_zero, natCast_o, Bool.not_eq_true', Bool.not_eq_false', beq_iff_eq, beq_eq_false_iff_ne, decide_eq_true_eq, decide_eq_false_iff_not, ne_eq, Bool.and_eq_true, Bool.and_eq_false_iff] at *); (try simp only [Int.ofNat_eq_natCast, Int.toNat_natCast] at *)))
    · exact ⟨h1, h2, by omega, by rw [show (i + 1).toNat = i.toNat + 1 by omega]; exact h4.on (by omega) (by assumption)⟩
    · omega
  · subst hW
    refine ⟨(_, _, _, _), rfl, ?_, ?_⟩ <;> (((try simp only [stdW, inRange, Ty.T, Ty.dflt, Nat.zero_add, Nat.add_zero, natCast_o, Bool.not_eq_true', Bool.not_eq_false', beq_iff_eq, beq_eq_false_iff_ne, decide_eq_true_eq, decide_eq_false_iff_not, ne_eq, Bool.and_eq_true, Bool.and_eq_false_iff] at *); (try simp only [Int.ofNat_eq_natCast, Int.toNat_natCast] at *)))
    · refine ⟨by rw [app1 h1, app1n h1], by omega, by omega, ?_⟩
      rw [app1 h1, show (i + 1).toNat = i.toNat + 1 by omega, show (i - f).toNat = i.toNat - f.toNat by omega]
      exact h4.sep (by omega) (by assumption)
    · omega

theorem spec_SplitByte_dc (s : List UInt8) (c : Int) (hs : s.length ≤ 1048576) : DC Try.prog 155 [.str s, .int .u8 c] [] fun r os => ∃ n out, out = splitB c s ∧ n = out.length ∧ r = .view 0 0 n ∧ os = [.lst .str 9 0 out none] := by
  refine dc_go (ti := ti) (own := true) tis false mix Try.func155 rfl rfl ?_; intro W hW Q hQ; cbv
  repeat' (first | refine And.intro (by (first | exact trivial | (intro hh; cases hh; done) | exact lex_ok hW (by decide +kernel) | rfl | (clear hQ; subst hW; (((try simp only [stdW, inRange, Ty.T, Ty.dflt, Nat.zero_add, Nat.add_zero, natCast_o, Bool.not_eq_true', Bool.not_eq_false', beq_iff_eq, beq_eq_false_iff_ne, decide_eq_true_eq, decide_eq_false_iff_not, ne_eq, Bool.and_eq_true, Bool.and_eq_false_iff] at *); (try simp only [Int.ofNat_eq_natCast, Int.toNat_natCast] at *))); omega) | (clear hQ; subst hW; (((try simp only [stdW, inRange, Ty.T, Ty.dflt, Nat.zero_add, Nat.add_zero, natCast_o, Bool.not_eq_true', Bool.not_eq_false', beq_iff_eq, beq_eq_false_iff_ne, decide_eq_true_eq, decide_eq_false_iff_not, ne_eq, Bool.and_eq_true, Bool.and_eq_false_iff] at *); (try simp only [Int.ofNat_eq_natCast, Int.toNat_natCast] at *))); (try simp at *); (try omega); done))) ?_ | (intro c hc; cases c <;> cbv))
  refine loop_in hW (S := List (List UInt8) × Nat × Int × Int) [0, 1, 5, 6, 7] (fun x => ⟨36, 0, false, [(0, .str s), (1, .int .u8 c), (5, .view 0 0 x.2.1), (6, .int .i64 x.2.2.1), (7, .int .i64 x.2.2.2)], [.lst .str 9 0 x.1 none]⟩)
    (fun x => x.2.1 = x.1.length ∧ 0 ≤ x.2.2.1 ∧ 0 ≤ x.2.2.2 ∧ x.1.length ≤ 1048577 ∧ (Cut c s x.1 x.2.2.1.toNat x.2.2.2.toNat ∨ (x.2.2.2 = s.length + 1 ∧ x.1 = splitB c s))) (fun x => s.length + 1 - x.2.2.2.toNat) ([], 0, 0, 0) (by subst hW; rfl) ⟨rfl, by simp, by simp, by simp, .inl (Cut.start c s)⟩ ?_
  rintro ⟨out, n, f, i⟩ ⟨h1, h2, h3, h5, h4⟩
  simp only at h1 h2 h3 h4 h5
  have k1 : i ≤ s.length → f.toNat ≤ i.toNat ∧ out.length ≤ i.toNat := fun h => by
    rcases h4 with h4 | h4
    · exact ⟨h4.fi, h4.ol⟩
    · omega
  cbv
  repeat' (first | refine And.intro (by (first | exact trivial | (intro hh; cases hh; done) | exact lex_ok hW (by decide +kernel) | rfl | (clear hQ; subst hW; (((try simp only [stdW, inRange, Ty.T, Ty.dflt, Nat.zero_add, Nat.add_zero, natCast_o, Bool.not_eq_true', Bool.not_eq_false', beq_iff_eq, beq_eq_false_iff_ne, decide_eq_true_eq, decide_eq_false_iff_not, ne_eq, Bool.and_eq_true, Bool.and_eq_false_iff] at *); (try simp only [Int.ofNat_eq_natCast, Int.toNat_natCast] at *))); omega) | (clear hQ; subst hW; (((try simp only [stdW, inRange, Ty.T, Ty.dflt, Nat.zero_add, Nat.add_zero, natCast_o, Bool.not_eq_true', Bool.not_eq_false', beq_iff_eq, beq_eq_false_iff_ne, decide_eq_true_eq, decide_eq_false_iff_not, ne_eq, Bool.and_eq_true, Bool.and_eq_false_iff] at *); (try simp only [Int.ofNat_eq_natCast, Int.toNat_natCast] at *))); (try simp at *); (try omega); done))) ?_ | (intro c hc; cases c <;> cbv))
  · refine hQ _ _ ⟨_, _, ?_, h1, rfl, rfl⟩; subst hW; (((try simp only [stdW, inRange, Ty.T, Ty.dflt, Nat.zero_add, Nat.add_zero, natCast_o, Bool.not_eq_true', Bool.not_eq_false', beq_iff_eq, beq_eq_false_iff_ne, decide_eq_true_eq, decide_eq_false_iff_not, ne_eq, Bool.and_eq_true, Bool.and_eq_false_iff] at *); (try simp only [Int.ofNat_eq_natCast, Int.toNat_natCast] at *)))
    rcases h4 with h4 | h4
    · have := h4.il; omega
    · exact h4.2
  · subst hW
    refine ⟨(_, _, _, _), rfl, ?_, ?_⟩ <;> (((try simp only [stdW, inRange, Ty.T, Ty.dflt, Nat.zero_add, Nat.add_zero, natCast_o, Bool.not_eq_true', Bool.not_eq_false', beq_iff_eq, beq_eq_false_iff_ne, decide_eq_true_eq, decide_eq_false_iff_not, ne_eq, Bool.and_eq_true, Bool.and_eq_false_iff] at *); (try simp only [Int.ofNat_eq_natCast, Int.toNat_natCast] at *)))
    · rcases h4 with h4 | h4
      · exact ⟨h1, h2, by omega, h5, .inl (by rw [show (i + 1).toNat = i.toNat + 1 by omega]; exact h4.on (by omega) (by assumption))⟩
      · omega
    · omega
  · subst hW
    refine ⟨(_, _, _, _), rfl, ?_, ?_⟩ <;> (((try simp only [stdW, inRange, Ty.T, Ty.dflt, Nat.zero_add, Nat.add_zero, natCast_o, Bool.not_eq_true', Bool.not_eq_false', beq_iff_eq, beq_eq_false_iff_ne, decide_eq_true_eq, decide_eq_false_iff_not, ne_eq, Bool.and_eq_true, Bool.and_eq_false_iff] at *); (try simp only [Int.ofNat_eq_natCast, Int.toNat_natCast] at *)))
    · rcases h4 with h4 | h4
      · refine ⟨by rw [app1 h1, app1n h1], by omega, by omega, by rw [app1 h1]; have := h4.ol; have := h4.il; simp; omega, .inl ?_⟩
        rw [app1 h1, show (i + 1).toNat = i.toNat + 1 by omega, show (i - f).toNat = i.toNat - f.toNat by omega]
        exact h4.sep (by omega) (by assumption)
      · omega
    · omega
  · subst hW
    refine ⟨(_, _, _, _), rfl, ?_, ?_⟩ <;> (((try simp only [stdW, inRange, Ty.T, Ty.dflt, Nat.zero_add, Nat.add_zero, natCast_o, Bool.not_eq_true', Bool.not_eq_false', beq_iff_eq, beq_eq_false_iff_ne, decide_eq_true_eq, decide_eq_false_iff_not, ne_eq, Bool.and_eq_true, Bool.and_eq_false_iff] at *); (try simp only [Int.ofNat_eq_natCast, Int.toNat_natCast] at *)))
    · rcases h4 with h4 | h4
      · refine ⟨by rw [app1 h1, app1n h1], by omega, by omega, by rw [app1 h1]; have := h4.ol; have := h4.il; simp; omega, .inr ⟨by omega, ?_⟩⟩
        rw [app1 h1, h4.done (by omega), show (i - f).toNat = i.toNat - f.toNat by omega]
      · omega
    · omega
end Go.Proofs.Ytdpmfnndaaplkaa

/- Words out of their texts. -/
namespace Go.Proofs.Ytdpmfnndaaplkaa
open Go Go.Dm Go.Proofs

def letterOf (x : UInt8) : Option Int :=
  if 97 ≤ (x.toNat : Int) ∧ (x.toNat : Int) ≤ 104 then some ((x.toNat : Int) - 97 + 1)
  else if 65 ≤ (x.toNat : Int) ∧ (x.toNat : Int) ≤ 72 then some (-((x.toNat : Int) - 65) - 1) else none
def lettersOf : List UInt8 → Option (List Int)
  | [] => some []
  | x :: r => match letterOf x, lettersOf r with | some a, some w => some (a :: w) | _, _ => none
def parseW (s : List UInt8) : Option (List Int) :=
  if s = [45] then some [] else match lettersOf s with | none => none | some w => if s = [] ∨ 24 < w.length then none else some w

theorem lettersOf_snoc : ∀ (s : List UInt8) (x : UInt8) (w : List Int) (a : Int), lettersOf s = some w → letterOf x = some a → lettersOf (s ++ [x]) = some (w ++ [a])
  | [], x, w, a, h, hx => by simp [lettersOf] at h; subst h; simp [lettersOf, hx]
  | y :: r, x, w, a, h, hx => by
    simp only [lettersOf] at h
    split at h
    · rename_i b v h1 h2
      cases h
      simp only [List.cons_append, lettersOf, h1, lettersOf_snoc r x v a h2 hx]
    · cases h
theorem lettersOf_none : ∀ (s t : List UInt8) (x : UInt8), letterOf x = none → lettersOf (s ++ x :: t) = none
  | [], t, x, hx => by simp [lettersOf, hx]
  | y :: r, t, x, hx => by simp only [List.cons_append, lettersOf, lettersOf_none r t x hx]; split <;> simp_all
theorem lettersOf_len : ∀ (s : List UInt8) (w : List Int), lettersOf s = some w → w.length = s.length
  | [], w, h => by simp [lettersOf] at h; subst h; rfl
  | y :: r, w, h => by
    simp only [lettersOf] at h
    split at h
    · rename_i b v h1 h2
      cases h
      simp [lettersOf_len r v h2]
    · cases h

theorem parse_bad {s : List UInt8} {i : Nat} (h : s ≠ [45]) (hi : i < s.length) (hx : letterOf (s.getD i 0) = none) : parseW s = none := by
  have e : s = s.take i ++ s.getD i 0 :: s.drop (i + 1) := by
    have := drop_cut (s := s) (f := 0) (i := i) (Nat.zero_le _) hi
    simpa using this
  unfold parseW
  rw [if_neg h]
  have := lettersOf_none (s.take i) (s.drop (i + 1)) _ hx
  rw [← e] at this
  rw [this]
theorem take_letter {s : List UInt8} {i : Nat} {out : List Int} {a : Int} (h : lettersOf (s.take i) = some out) (hi : i < s.length) (hx : letterOf (s.getD i 0) = some a) : lettersOf (s.take (i + 1)) = some (out ++ [a]) := by
  rw [take_snoc (d := 0) hi]; exact lettersOf_snoc _ _ _ _ h hx
theorem letter_lo {x : UInt8} (h1 : 97 ≤ (x.toNat : Int)) (h2 : (x.toNat : Int) < 105) : letterOf x = some ((x.toNat : Int) - 97 + 1) := by
  unfold letterOf; rw [if_pos ⟨h1, by omega⟩]
theorem letter_up {x : UInt8} (h1 : 65 ≤ (x.toNat : Int)) (h2 : (x.toNat : Int) < 73) : letterOf x = some (-((x.toNat : Int) - 65) - 1) := by
  unfold letterOf; rw [if_neg (by omega), if_pos ⟨h1, by omega⟩]
theorem letter_no {x : UInt8} (h1 : ¬ (97 ≤ (x.toNat : Int) ∧ (x.toNat : Int) < 105)) (h2 : ¬ (65 ≤ (x.toNat : Int) ∧ (x.toNat : Int) < 73)) : letterOf x = none := by
  unfold letterOf; rw [if_neg (by omega), if_neg (by omega)]
theorem parse_end {s : List UInt8} {out : List Int} (h : s ≠ [45]) (h4 : lettersOf s = some out) (h5 : s ≠ []) (h6 : out.length ≤ 24) : parseW s = some out := by
  unfold parseW; rw [if_neg h, h4]; simp only; rw [if_neg]; rintro (h | h); exact h5 h; omega
theorem parse_long {s : List UInt8} {out : List Int} (h : s ≠ [45]) (h4 : lettersOf s = some out) (h6 : s = [] ∨ 24 < out.length) : parseW s = none := by
  unfold parseW; rw [if_neg h, h4]; simp only; rw [if_pos h6]

theorem ParseWord_dc (s : List UInt8) (hs : s.length ≤ 1048576) : DC Try.prog 148 [.str s] [] fun r os =>
    (parseW s = none ∧ r = .tup [.nilsl, .bool false] ∧ os = []) ∨ ∃ n w, parseW s = some w ∧ n = w.length ∧ r = .tup [.view 0 0 n, .bool true] ∧ os = [.lst (.int .i64) 3 0 w none] := by
  refine dc_go (ti := ti) (own := true) tis false mix Try.func148 rfl rfl ?_; intro W hW Q hQ; cbv
  repeat' (first | refine And.intro (by (first | exact trivial | (intro hh; cases hh; done) | exact lex_ok hW (by decide +kernel) | rfl | (clear hQ; subst hW; (((try simp only [stdW, inRange, Ty.T, Ty.dflt, Nat.zero_add, Nat.add_zero, natCast_o, Bool.not_eq_true', Bool.not_eq_false', beq_iff_eq, beq_eq_false_iff_ne, decide_eq_true_eq, decide_eq_false_iff_not, ne_eq, Bool.and_eq_true, Bool.and_eq_false_iff] at *); (try simp only [Int.ofNat_eq_natCast, Int.toNat_natCast] at *))); omega) | (clear hQ; subst hW; (((try simp only [stdW, inRange, Ty.T, Ty.dflt, Nat.zero_add, Nat.add_zero, natCast_o, Bool.not_eq_true', Bool.not_eq_false', beq_iff_eq, beq_eq_false_iff_ne, decide_eq_true_eq, decide_eq_false_iff_not, ne_eq, Bool.and_eq_true, Bool.and_eq_false_iff] at *); (try simp only [Int.ofNat_eq_natCast, Int.toNat_natCast] at *))); (try simp at *); (try omega); done))) ?_ | (intro c hc; cases c <;> cbv))
  · refine loop_in hW (S := List Int × Nat × Int) [0, 4, 12, 13] (fun x => ⟨57, 0, false, [(0, .str s), (4, .view 0 0 x.2.1), (12, .int .i64 (W.int (W.len s))), (13, .int .i64 x.2.2)], [.lst (.int .i64) 3 0 x.1 none]⟩)
      (fun x => x.2.1 = x.1.length ∧ 0 ≤ x.2.2 ∧ x.2.2 ≤ s.length ∧ lettersOf (s.take x.2.2.toNat) = some x.1) (fun x => s.length - x.2.2.toNat) ([], 0, 0) (by subst hW; rfl) ⟨rfl, by simp, by simp, by simp [lettersOf]⟩ ?_
    rintro ⟨out, n, i⟩ ⟨h1, h2, h3, h4⟩
    simp only at h1 h2 h3 h4
    have h5 : out.length ≤ 1048576 := by have := lettersOf_len _ _ h4; simp at this; omega
    cbv
    repeat' (first | refine And.intro (by (first | exact trivial | (intro hh; cases hh; done) | exact lex_ok hW (by decide +kernel) | rfl | (clear hQ; subst hW; (((try simp only [stdW, inRange, Ty.T, Ty.dflt, Nat.zero_add, Nat.add_zero, natCast_o, Bool.not_eq_true', Bool.not_eq_false', beq_iff_eq, beq_eq_false_iff_ne, decide_eq_true_eq, decide_eq_false_iff_not, ne_eq, Bool.and_eq_true, Bool.and_eq_false_iff] at *); (try simp only [Int.ofNat_eq_natCast, Int.toNat_natCast] at *))); omega) | (clear hQ; subst hW; (((try simp only [stdW, inRange, Ty.T, Ty.dflt, Nat.zero_add, Nat.add_zero, natCast_o, Bool.not_eq_true', Bool.not_eq_false', beq_iff_eq, beq_eq_false_iff_ne, decide_eq_true_eq, decide_eq_false_iff_not, ne_eq, Bool.and_eq_true, Bool.and_eq_false_iff] at *); (try simp only [Int.ofNat_eq_natCast, Int.toNat_natCast] at *))); (try simp at *); (try omega); done))) ?_ | (intro c hc; cases c <;> cbv))
    · refine hQ _ _ (.inr ⟨_, _, ?_, h1, rfl, rfl⟩); subst hW; (((try simp only [stdW, inRange, Ty.T, Ty.dflt, Nat.zero_add, Nat.add_zero, natCast_o, Bool.not_eq_true', Bool.not_eq_false', beq_iff_eq, beq_eq_false_iff_ne, decide_eq_true_eq, decide_eq_false_iff_not, ne_eq, Bool.and_eq_true, Bool.and_eq_false_iff] at *); (try simp only [Int.ofNat_eq_natCast, Int.toNat_natCast] at *)))
      rw [take_all (by omega)] at h4
      exact parse_end (by assumption) h4 (by assumption) (by omega)
    · refine hQ _ _ (.inl ⟨?_, rfl, rfl⟩); subst hW; (((try simp only [stdW, inRange, Ty.T, Ty.dflt, Nat.zero_add, Nat.add_zero, natCast_o, Bool.not_eq_true', Bool.not_eq_false', beq_iff_eq, beq_eq_false_iff_ne, decide_eq_true_eq, decide_eq_false_iff_not, ne_eq, Bool.and_eq_true, Bool.and_eq_false_iff] at *); (try simp only [Int.ofNat_eq_natCast, Int.toNat_natCast] at *)))
      rw [take_all (by omega)] at h4
      exact parse_long (by assumption) h4 (.inr (by omega))
    · refine hQ _ _ (.inl ⟨?_, rfl, rfl⟩); subst hW; (((try simp only [stdW, inRange, Ty.T, Ty.dflt, Nat.zero_add, Nat.add_zero, natCast_o, Bool.not_eq_true', Bool.not_eq_false', beq_iff_eq, beq_eq_false_iff_ne, decide_eq_true_eq, decide_eq_false_iff_not, ne_eq, Bool.and_eq_true, Bool.and_eq_false_iff] at *); (try simp only [Int.ofNat_eq_natCast, Int.toNat_natCast] at *)))
      rw [take_all (by omega)] at h4
      exact parse_long (by assumption) h4 (.inl (by assumption))
    all_goals first
      | (refine hQ _ _ (.inl ⟨?_, rfl, rfl⟩); subst hW; (((try simp only [stdW, inRange, Ty.T, Ty.dflt, Nat.zero_add, Nat.add_zero, natCast_o, Bool.not_eq_true', Bool.not_eq_false', beq_iff_eq, beq_eq_false_iff_ne, decide_eq_true_eq, decide_eq_false_iff_not, ne_eq, Bool.and_eq_true, Bool.and_eq_false_iff] at *); (try simp only [Int.ofNat_eq_natCast, Int.toNat_natCast] at *))); exact parse_bad (i := i.toNat) (by assumption) (by omega) (letter_no (by omega) (by omega)))
      | (subst hW
         refine ⟨(_, _, _), rfl, ?_, ?_⟩ <;> (((try simp only [stdW, inRange, Ty.T, Ty.dflt, Nat.zero_add, Nat.add_zero, natCast_o, Bool.not_eq_true', Bool.not_eq_false', beq_iff_eq, beq_eq_false_iff_ne, decide_eq_true_eq, decide_eq_false_iff_not, ne_eq, Bool.and_eq_true, Bool.and_eq_false_iff] at *); (try simp only [Int.ofNat_eq_natCast, Int.toNat_natCast] at *)))
         · refine ⟨by rw [app1 h1, app1n h1], by omega, by omega, ?_⟩
           rw [app1 h1, show (i + 1).toNat = i.toNat + 1 by omega]
           exact take_letter h4 (by omega) (by first | (rw [letter_lo (by omega) (by omega)]; done) | (rw [letter_up (by omega) (by omega)]; congr 1; omega) | (exfalso; omega))
         · omega)
  · refine hQ _ _ (.inr ⟨_, _, ?_, ?_, rfl, rfl⟩) <;> subst hW <;> (((try simp only [stdW, inRange, Ty.T, Ty.dflt, Nat.zero_add, Nat.add_zero, natCast_o, Bool.not_eq_true', Bool.not_eq_false', beq_iff_eq, beq_eq_false_iff_ne, decide_eq_true_eq, decide_eq_false_iff_not, ne_eq, Bool.and_eq_true, Bool.and_eq_false_iff] at *); (try simp only [Int.ofNat_eq_natCast, Int.toNat_natCast] at *)))
    · simp_all [parseW]
    · rfl
end Go.Proofs.Ytdpmfnndaaplkaa

/- Words out of their texts: the reference. -/
namespace Go.Proofs.Ytdpmfnndaaplkaa
open Go Go.Dm Go.Proofs

theorem spec_ParseWord_dc (s : List UInt8) (hs : s.length ≤ 1048576) : DC Try.prog 149 [.str s] [] fun r os =>
    (parseW s = none ∧ r = .tup [.view 0 0 0, .bool false] ∧ os = [.lst (.int .i64) 3 0 [] none]) ∨ ∃ n w, parseW s = some w ∧ n = w.length ∧ r = .tup [.view 0 0 n, .bool true] ∧ os = [.lst (.int .i64) 3 0 w none] := by
  refine dc_go (ti := ti) (own := true) tis false mix Try.func149 rfl rfl ?_; intro W hW Q hQ; cbv
  repeat' (first | refine And.intro (by (first | exact trivial | (intro hh; cases hh; done) | exact lex_ok hW (by decide +kernel) | rfl | (clear hQ; subst hW; (((try simp only [stdW, inRange, Ty.T, Ty.dflt, Nat.zero_add, Nat.add_zero, natCast_o, Bool.not_eq_true', Bool.not_eq_false', beq_iff_eq, beq_eq_false_iff_ne, decide_eq_true_eq, decide_eq_false_iff_not, ne_eq, Bool.and_eq_true, Bool.and_eq_false_iff] at *); (try simp only [Int.ofNat_eq_natCast, Int.toNat_natCast] at *))); omega) | (clear hQ; subst hW; (((try simp only [stdW, inRange, Ty.T, Ty.dflt, Nat.zero_add, Nat.add_zero, natCast_o, Bool.not_eq_true', Bool.not_eq_false', beq_iff_eq, beq_eq_false_iff_ne, decide_eq_true_eq, decide_eq_false_iff_not, ne_eq, Bool.and_eq_true, Bool.and_eq_false_iff] at *); (try simp only [Int.ofNat_eq_natCast, Int.toNat_natCast] at *))); (try simp at *); (try omega); done))) ?_ | (intro c hc; cases c <;> cbv))
  · refine loop_in hW (S := List Int × Nat × Int) [0, 4, 5] (fun x => ⟨68, 0, false, [(0, .str s), (4, .view 0 0 x.2.1), (5, .int .i64 x.2.2)], [.lst (.int .i64) 3 0 x.1 none]⟩)
      (fun x => x.2.1 = x.1.length ∧ 0 ≤ x.2.2 ∧ x.2.2 ≤ s.length ∧ lettersOf (s.take x.2.2.toNat) = some x.1) (fun x => s.length - x.2.2.toNat) ([], 0, 0) (by subst hW; rfl) ⟨rfl, by simp, by simp, by simp [lettersOf]⟩ ?_
    rintro ⟨out, n, i⟩ ⟨h1, h2, h3, h4⟩
    simp only at h1 h2 h3 h4
    have h5 : out.length ≤ 1048576 := by have := lettersOf_len _ _ h4; simp at this; omega
    cbv
    repeat' (first | refine And.intro (by (first | exact trivial | (intro hh; cases hh; done) | exact lex_ok hW (by decide +kernel) | rfl | (clear hQ; subst hW; (((try simp only [stdW, inRange, Ty.T, Ty.dflt, Nat.zero_add, Nat.add_zero, natCast_o, Bool.not_eq_true', Bool.not_eq_false', beq_iff_eq, beq_eq_false_iff_ne, decide_eq_true_eq, decide_eq_false_iff_not, ne_eq, Bool.and_eq_true, Bool.and_eq_false_iff] at *); (try simp only [Int.ofNat_eq_natCast, Int.toNat_natCast] at *))); omega) | (clear hQ; subst hW; (((try simp only [stdW, inRange, Ty.T, Ty.dflt, Nat.zero_add, Nat.add_zero, natCast_o, Bool.not_eq_true', Bool.not_eq_false', beq_iff_eq, beq_eq_false_iff_ne, decide_eq_true_eq, decide_eq_false_iff_not, ne_eq, Bool.and_eq_true, Bool.and_eq_false_iff] at *); (try simp only [Int.ofNat_eq_natCast, Int.toNat_natCast] at *))); (try simp at *); (try omega); done))) ?_ | (intro c hc; cases c <;> cbv))
    all_goals first
      | (refine hQ _ _ (.inr ⟨_, _, ?_, h1, rfl, rfl⟩); subst hW; (((try simp only [stdW, inRange, Ty.T, Ty.dflt, Nat.zero_add, Nat.add_zero, natCast_o, Bool.not_eq_true', Bool.not_eq_false', beq_iff_eq, beq_eq_false_iff_ne, decide_eq_true_eq, decide_eq_false_iff_not, ne_eq, Bool.and_eq_true, Bool.and_eq_false_iff] at *); (try simp only [Int.ofNat_eq_natCast, Int.toNat_natCast] at *)))
         rw [take_all (by omega)] at h4
         exact parse_end (by assumption) h4 (by rintro rfl; simp [lettersOf] at h4; subst h4; simp at h1; omega) (by omega))
      | (refine hQ _ _ (.inl ⟨?_, rfl, rfl⟩); subst hW; (((try simp only [stdW, inRange, Ty.T, Ty.dflt, Nat.zero_add, Nat.add_zero, natCast_o, Bool.not_eq_true', Bool.not_eq_false', beq_iff_eq, beq_eq_false_iff_ne, decide_eq_true_eq, decide_eq_false_iff_not, ne_eq, Bool.and_eq_true, Bool.and_eq_false_iff] at *); (try simp only [Int.ofNat_eq_natCast, Int.toNat_natCast] at *)))
         first
         | (rw [take_all (by omega)] at h4; exact parse_long (by assumption) h4 (.inr (by omega)))
         | (rw [take_all (by omega)] at h4; exact parse_long (by assumption) h4 (.inl (by have := lettersOf_len _ _ h4; apply List.eq_nil_of_length_eq_zero; omega)))
         | exact parse_bad (i := i.toNat) (by assumption) (by omega) (letter_no (by omega) (by omega)))
      | (subst hW
         refine ⟨(_, _, _), rfl, ?_, ?_⟩ <;> (((try simp only [stdW, inRange, Ty.T, Ty.dflt, Nat.zero_add, Nat.add_zero, natCast_o, Bool.not_eq_true', Bool.not_eq_false', beq_iff_eq, beq_eq_false_iff_ne, decide_eq_true_eq, decide_eq_false_iff_not, ne_eq, Bool.and_eq_true, Bool.and_eq_false_iff] at *); (try simp only [Int.ofNat_eq_natCast, Int.toNat_natCast] at *)))
         · refine ⟨by rw [app1 h1, app1n h1], by omega, by omega, ?_⟩
           rw [app1 h1, show (i + 1).toNat = i.toNat + 1 by omega]
           exact take_letter h4 (by omega) (by first | (rw [letter_lo (by omega) (by omega)]; done) | (rw [letter_up (by omega) (by omega)]; congr 1; omega) | (exfalso; omega))
         · omega)
  · refine hQ _ _ (.inr ⟨_, _, ?_, ?_, rfl, rfl⟩) <;> subst hW <;> (((try simp only [stdW, inRange, Ty.T, Ty.dflt, Nat.zero_add, Nat.add_zero, natCast_o, Bool.not_eq_true', Bool.not_eq_false', beq_iff_eq, beq_eq_false_iff_ne, decide_eq_true_eq, decide_eq_false_iff_not, ne_eq, Bool.and_eq_true, Bool.and_eq_false_iff] at *); (try simp only [Int.ofNat_eq_natCast, Int.toNat_natCast] at *)))
    · simp_all [parseW]
    · rfl
end Go.Proofs.Ytdpmfnndaaplkaa

/- How often letters occur. -/
namespace Go.Proofs.Ytdpmfnndaaplkaa
open Go Go.Dm Go.Proofs

def cntL (l : List Int) : List Int := (List.range 9).map fun k => ((l.filter fun x => x.natAbs == k).length : Int)
theorem cntL_len (l : List Int) : (cntL l).length = 9 := by simp [cntL]
theorem cntL_get (l : List Int) {k : Nat} (h : k < 9) : (cntL l).getD k 0 = ((l.filter fun x => x.natAbs == k).length : Int) := by
  simp [cntL, List.getD_eq_getElem?_getD, h]
theorem cntL_nil : cntL [] = List.replicate 9 0 := by decide
theorem cnt_snoc (l : List Int) (x : Int) (hx : x.natAbs ≤ 8) : (cntL l).set x.natAbs ((cntL l).getD x.natAbs 0 + 1) = cntL (l ++ [x]) := by
  rw [cntL_get _ (by omega)]
  apply List.ext_getElem
  · simp [cntL]
  · intro k h1 h2
    have hk : k < 9 := by simpa [cntL] using h2
    rw [List.getElem_set]
    by_cases h : x.natAbs = k
    · subst h
      simp [cntL]
    · rw [if_neg h]
      simp only [cntL, List.getElem_map, List.getElem_range, List.filter_append]
      rw [List.filter_cons_of_neg (by simpa using h)]
      simp

theorem get_mem2 {g : List (List Int)} {p k : Nat} (hp : p < g.length) (hk : k < (g.getD p []).length) : (g.getD p []).getD k 0 ∈ g.flatten := by
  rw [List.mem_flatten]
  refine ⟨g.getD p [], ?_, ?_⟩
  · rw [getD_lt' hp]; exact List.getElem_mem hp
  · rw [getD_lt' hk]; exact List.getElem_mem hk

theorem letterCounts_dc (g : List (List Int)) (hg : g.length ≤ 1048576) (hr : g.flatten.length ≤ 1048576) (h8 : ∀ x ∈ g.flatten, -8 ≤ x ∧ x ≤ 8) : DC Try.prog 186 [.fs (.sl 3 (.int .i64)) 51 g] [] fun r os =>
    ∃ n c, c = cntL g.flatten ∧ n = 9 ∧ r = .view 0 0 n ∧ os = [.lst (.int .i64) 3 0 c none] := by
  refine dc_go (ti := ti) (own := true) tis false mix Try.func186 rfl rfl ?_; intro W hW Q hQ; cbv
  repeat' (first | refine And.intro (by (first | exact trivial | (intro hh; cases hh; done) | exact lex_ok hW (by decide +kernel) | rfl | (clear hQ; subst hW; (((try simp only [stdW, inRange, Ty.T, Ty.dflt, Nat.zero_add, Nat.add_zero, natCast_o, Bool.not_eq_true', Bool.not_eq_false', beq_iff_eq, beq_eq_false_iff_ne, decide_eq_true_eq, decide_eq_false_iff_not, ne_eq, Bool.and_eq_true, Bool.and_eq_false_iff] at *); (try simp only [Int.ofNat_eq_natCast, Int.toNat_natCast] at *))); omega) | (clear hQ; subst hW; (((try simp only [stdW, inRange, Ty.T, Ty.dflt, Nat.zero_add, Nat.add_zero, natCast_o, Bool.not_eq_true', Bool.not_eq_false', beq_iff_eq, beq_eq_false_iff_ne, decide_eq_true_eq, decide_eq_false_iff_not, ne_eq, Bool.and_eq_true, Bool.and_eq_false_iff] at *); (try simp only [Int.ofNat_eq_natCast, Int.toNat_natCast] at *))); (try simp at *); (try omega); done))) ?_ | (intro c hc; cases c <;> cbv))
  refine loop_in hW (S := List Int × Nat × Int) [3, 9, 10, 11] (fun x => ⟨31, 0, false, [(3, .view 0 0 x.2.1), (9, .fs (.sl 3 (.int .i64)) 51 g), (10, .int .i64 (W.int (W.len g))), (11, .int .i64 x.2.2)], [.lst (.int .i64) 3 0 x.1 none]⟩)
    (fun x => x.2.1 = 9 ∧ x.1.length = 9 ∧ 0 ≤ x.2.2 ∧ x.2.2 ≤ g.length ∧ x.1 = cntL (g.take x.2.2.toNat).flatten) (fun x => g.length - x.2.2.toNat) (W.rep (W.nat 9) 0, W.nat 9, 0) (by subst hW; rfl) ⟨by subst hW; rfl, by subst hW; rfl, by simp, by simp, by subst hW; exact cntL_nil.symm⟩ ?_
  rintro ⟨out, n, p⟩ ⟨h1, h2, h3, h4, h5⟩
  simp only at h1 h2 h3 h4 h5
  cbv
  repeat' (first | refine And.intro (by (first | exact trivial | (intro hh; cases hh; done) | exact lex_ok hW (by decide +kernel) | rfl | (clear hQ; subst hW; (((try simp only [stdW, inRange, Ty.T, Ty.dflt, Nat.zero_add, Nat.add_zero, natCast_o, Bool.not_eq_true', Bool.not_eq_false', beq_iff_eq, beq_eq_false_iff_ne, decide_eq_true_eq, decide_eq_false_iff_not, ne_eq, Bool.and_eq_true, Bool.and_eq_false_iff] at *); (try simp only [Int.ofNat_eq_natCast, Int.toNat_natCast] at *))); omega) | (clear hQ; subst hW; (((try simp only [stdW, inRange, Ty.T, Ty.dflt, Nat.zero_add, Nat.add_zero, natCast_o, Bool.not_eq_true', Bool.not_eq_false', beq_iff_eq, beq_eq_false_iff_ne, decide_eq_true_eq, decide_eq_false_iff_not, ne_eq, Bool.and_eq_true, Bool.and_eq_false_iff] at *); (try simp only [Int.ofNat_eq_natCast, Int.toNat_natCast] at *))); (try simp at *); (try omega); done))) ?_ | (intro c hc; cases c <;> cbv))
  · refine hQ _ _ ⟨_, _, ?_, h1, rfl, rfl⟩; subst hW; (((try simp only [stdW, inRange, Ty.T, Ty.dflt, Nat.zero_add, Nat.add_zero, natCast_o, Bool.not_eq_true', Bool.not_eq_false', beq_iff_eq, beq_eq_false_iff_ne, decide_eq_true_eq, decide_eq_false_iff_not, ne_eq, Bool.and_eq_true, Bool.and_eq_false_iff] at *); (try simp only [Int.ofNat_eq_natCast, Int.toNat_natCast] at *)))
    rw [h5, take_all (by omega)]
  · obtain ⟨row, hrow⟩ : ∃ row : List Int, row = W.get (.sl 3 (.int .i64)) g (W.nat p) := ⟨_, rfl⟩
    have hf : p.toNat < g.length ∧ row = g.getD p.toNat [] := by subst hW; (((try simp only [stdW, inRange, Ty.T, Ty.dflt, Nat.zero_add, Nat.add_zero, natCast_o, Bool.not_eq_true', Bool.not_eq_false', beq_iff_eq, beq_eq_false_iff_ne, decide_eq_true_eq, decide_eq_false_iff_not, ne_eq, Bool.and_eq_true, Bool.and_eq_false_iff] at *); (try simp only [Int.ofNat_eq_natCast, Int.toNat_natCast] at *))); exact ⟨by omega, hrow⟩
    obtain ⟨hp, hrow'⟩ := hf
    have hl := row_len (xss := g) (d := []) hp
    rw [← hrow'] at hl
    refine loop_in hW (S := List Int × Nat × Int) [3, 9, 10, 11, 15, 16, 17] (fun x => ⟨31, 0, false, [(3, .view 0 0 x.2.1), (9, .fs (.sl 3 (.int .i64)) 51 g), (10, .int .i64 (W.int (W.len g))), (11, .int .i64 p), (15, .fs (.int .i64) 3 row), (16, .int .i64 (W.int (W.len row))), (17, .int .i64 x.2.2)], [.lst (.int .i64) 3 0 x.1 none]⟩)
      (fun x => x.2.1 = 9 ∧ x.1.length = 9 ∧ 0 ≤ x.2.2 ∧ x.2.2 ≤ row.length ∧ x.1 = cntL ((g.take p.toNat).flatten ++ row.take x.2.2.toNat)) (fun x => row.length - x.2.2.toNat) (out, n, 0) (by subst hrow; subst hW; rfl) ⟨h1, h2, by simp, by simp, by simpa using h5⟩ ?_
    rintro ⟨out, n, k⟩ ⟨h1, h2, h6, h7, h8'⟩
    simp only at h1 h2 h6 h7 h8'
    cbv
    repeat' (first | refine And.intro (by (first | exact trivial | (intro hh; cases hh; done) | exact lex_ok hW (by decide +kernel) | rfl | (clear hQ; subst hW; (((try simp only [stdW, inRange, Ty.T, Ty.dflt, Nat.zero_add, Nat.add_zero, natCast_o, Bool.not_eq_true', Bool.not_eq_false', beq_iff_eq, beq_eq_false_iff_ne, decide_eq_true_eq, decide_eq_false_iff_not, ne_eq, Bool.and_eq_true, Bool.and_eq_false_iff] at *); (try simp only [Int.ofNat_eq_natCast, Int.toNat_natCast] at *))); omega) | (clear hQ; subst hW; (((try simp only [stdW, inRange, Ty.T, Ty.dflt, Nat.zero_add, Nat.add_zero, natCast_o, Bool.not_eq_true', Bool.not_eq_false', beq_iff_eq, beq_eq_false_iff_ne, decide_eq_true_eq, decide_eq_false_iff_not, ne_eq, Bool.and_eq_true, Bool.and_eq_false_iff] at *); (try simp only [Int.ofNat_eq_natCast, Int.toNat_natCast] at *))); (try simp at *); (try omega); done))) ?_ | (intro c hc; cases c <;> cbv))
    · subst hW
      refine ⟨(_, _, _), rfl, ?_, ?_⟩ <;> (((try simp only [stdW, inRange, Ty.T, Ty.dflt, Nat.zero_add, Nat.add_zero, natCast_o, Bool.not_eq_true', Bool.not_eq_false', beq_iff_eq, beq_eq_false_iff_ne, decide_eq_true_eq, decide_eq_false_iff_not, ne_eq, Bool.and_eq_true, Bool.and_eq_false_iff] at *); (try simp only [Int.ofNat_eq_natCast, Int.toNat_natCast] at *)))
      · refine ⟨h1, h2, by omega, by omega, ?_⟩
        rw [h8', take_all (xs := row) (k := k.toNat) (by omega), show (p + 1).toNat = p.toNat + 1 by omega, take_flat (d := []) hp, hrow']
      · omega
    · ((try simp only [natCast_o] at *); (try simp only [Int.ofNat_eq_natCast] at *))
      obtain ⟨x, hx⟩ : ∃ x : Int, x = W.get (.int .i64) row (W.nat k) := ⟨_, rfl⟩
      have hf : k.toNat < row.length ∧ x = row.getD k.toNat 0 := by subst hW; (((try simp only [stdW, inRange, Ty.T, Ty.dflt, Nat.zero_add, Nat.add_zero, natCast_o, Bool.not_eq_true', Bool.not_eq_false', beq_iff_eq, beq_eq_false_iff_ne, decide_eq_true_eq, decide_eq_false_iff_not, ne_eq, Bool.and_eq_true, Bool.and_eq_false_iff] at *); (try simp only [Int.ofNat_eq_natCast, Int.toNat_natCast] at *))); exact ⟨by omega, hx⟩
      obtain ⟨hk, hx'⟩ := hf
      have hm : x ∈ g.flatten := by rw [hx', hrow']; exact get_mem2 hp (by rw [← hrow']; exact hk)
      have hb := h8 x hm
      have hb' : -1000000 ≤ x ∧ x ≤ 1000000 := ⟨by omega, by omega⟩
      refine call0 hW Try.call191 (size_dc _ (by rw [hx] at hb'; exact hb')) rfl ?_
      rintro r os ⟨rfl, c, hc2, rfl⟩; cbv
      have hc2' : c = max x (-x) := by rw [hx]; exact hc2
      have hc3 : 0 ≤ c ∧ c ≤ 8 ∧ c.toNat = x.natAbs := by omega
      obtain ⟨hc3, hc4, hc5⟩ := hc3
      have hv : 0 ≤ out.getD c.toNat 0 ∧ out.getD c.toNat 0 ≤ 1048576 := by
        rw [h8', cntL_get _ (by omega)]
        have h9 := List.length_filter_le (fun y : Int => y.natAbs == c.toNat) ((g.take p.toNat).flatten ++ row.take k.toNat)
        rw [List.length_append, List.length_take] at h9
        omega
      repeat' (first | refine And.intro (by (first | exact trivial | (intro hh; cases hh; done) | exact lex_ok hW (by decide +kernel) | rfl | (clear hQ; subst hW; (((try simp only [stdW, inRange, Ty.T, Ty.dflt, Nat.zero_add, Nat.add_zero, natCast_o, Bool.not_eq_true', Bool.not_eq_false', beq_iff_eq, beq_eq_false_iff_ne, decide_eq_true_eq, decide_eq_false_iff_not, ne_eq, Bool.and_eq_true, Bool.and_eq_false_iff] at *); (try simp only [Int.ofNat_eq_natCast, Int.toNat_natCast] at *))); omega) | (clear hQ; subst hW; (((try simp only [stdW, inRange, Ty.T, Ty.dflt, Nat.zero_add, Nat.add_zero, natCast_o, Bool.not_eq_true', Bool.not_eq_false', beq_iff_eq, beq_eq_false_iff_ne, decide_eq_true_eq, decide_eq_false_iff_not, ne_eq, Bool.and_eq_true, Bool.and_eq_false_iff] at *); (try simp only [Int.ofNat_eq_natCast, Int.toNat_natCast] at *))); (try simp at *); (try omega); done))) ?_ | (intro c hc; cases c <;> cbv))
      subst hW
      refine ⟨(_, _, _), rfl, ?_, ?_⟩ <;> (((try simp only [stdW, inRange, Ty.T, Ty.dflt, Nat.zero_add, Nat.add_zero, natCast_o, Bool.not_eq_true', Bool.not_eq_false', beq_iff_eq, beq_eq_false_iff_ne, decide_eq_true_eq, decide_eq_false_iff_not, ne_eq, Bool.and_eq_true, Bool.and_eq_false_iff] at *); (try simp only [Int.ofNat_eq_natCast, Int.toNat_natCast] at *)))
      · refine ⟨h1, by simpa using h2, by omega, by omega, ?_⟩
        rw [hc5, h8', cnt_snoc _ _ (by omega), show (k + 1).toNat = k.toNat + 1 by omega, take_snoc (d := 0) hk, ← hx', List.append_assoc]
      · omega

theorem l3Uses_dc (g : List (List Int)) (hg : g.length ≤ 1048576) (hr : g.flatten.length ≤ 1048576) (h8 : ∀ x ∈ g.flatten, -8 ≤ x ∧ x ≤ 8) : DC Try.prog 151 [.fs (.sl 3 (.int .i64)) 51 g] [] fun r os =>
    ∃ n c, c = cntL g.flatten ∧ n = 9 ∧ r = .view 0 0 n ∧ os = [.lst (.int .i64) 3 0 c none] := by
  refine dc_go (ti := ti) (own := true) tis false mix Try.func151 rfl rfl ?_; intro W hW Q hQ; cbv
  repeat' (first | refine And.intro (by (first | exact trivial | (intro hh; cases hh; done) | exact lex_ok hW (by decide +kernel) | rfl | (clear hQ; subst hW; (((try simp only [stdW, inRange, Ty.T, Ty.dflt, Nat.zero_add, Nat.add_zero, natCast_o, Bool.not_eq_true', Bool.not_eq_false', beq_iff_eq, beq_eq_false_iff_ne, decide_eq_true_eq, decide_eq_false_iff_not, ne_eq, Bool.and_eq_true, Bool.and_eq_false_iff] at *); (try simp only [Int.ofNat_eq_natCast, Int.toNat_natCast] at *))); omega) | (clear hQ; subst hW; (((try simp only [stdW, inRange, Ty.T, Ty.dflt, Nat.zero_add, Nat.add_zero, natCast_o, Bool.not_eq_true', Bool.not_eq_false', beq_iff_eq, beq_eq_false_iff_ne, decide_eq_true_eq, decide_eq_false_iff_not, ne_eq, Bool.and_eq_true, Bool.and_eq_false_iff] at *); (try simp only [Int.ofNat_eq_natCast, Int.toNat_natCast] at *))); (try simp at *); (try omega); done))) ?_ | (intro c hc; cases c <;> cbv))
  refine loop_in hW (S := List Int × Nat × Int) [0, 3, 4] (fun x => ⟨45, 0, false, [(0, .fs (.sl 3 (.int .i64)) 51 g), (3, .view 0 0 x.2.1), (4, .int .i64 x.2.2)], [.lst (.int .i64) 3 0 x.1 none]⟩)
    (fun x => x.2.1 = 9 ∧ x.1.length = 9 ∧ 0 ≤ x.2.2 ∧ x.2.2 ≤ g.length ∧ x.1 = cntL (g.take x.2.2.toNat).flatten) (fun x => g.length - x.2.2.toNat) (W.rep (W.nat 9) 0, W.nat 9, 0) (by subst hW; rfl) ⟨by subst hW; rfl, by subst hW; rfl, by simp, by simp, by subst hW; exact cntL_nil.symm⟩ ?_
  rintro ⟨out, n, p⟩ ⟨h1, h2, h3, h4, h5⟩
  simp only at h1 h2 h3 h4 h5
  cbv
  repeat' (first | refine And.intro (by (first | exact trivial | (intro hh; cases hh; done) | exact lex_ok hW (by decide +kernel) | rfl | (clear hQ; subst hW; (((try simp only [stdW, inRange, Ty.T, Ty.dflt, Nat.zero_add, Nat.add_zero, natCast_o, Bool.not_eq_true', Bool.not_eq_false', beq_iff_eq, beq_eq_false_iff_ne, decide_eq_true_eq, decide_eq_false_iff_not, ne_eq, Bool.and_eq_true, Bool.and_eq_false_iff] at *); (try simp only [Int.ofNat_eq_natCast, Int.toNat_natCast] at *))); omega) | (clear hQ; subst hW; (((try simp only [stdW, inRange, Ty.T, Ty.dflt, Nat.zero_add, Nat.add_zero, natCast_o, Bool.not_eq_true', Bool.not_eq_false', beq_iff_eq, beq_eq_false_iff_ne, decide_eq_true_eq, decide_eq_false_iff_not, ne_eq, Bool.and_eq_true, Bool.and_eq_false_iff] at *); (try simp only [Int.ofNat_eq_natCast, Int.toNat_natCast] at *))); (try simp at *); (try omega); done))) ?_ | (intro c hc; cases c <;> cbv))
  · refine hQ _ _ ⟨_, _, ?_, h1, rfl, rfl⟩; subst hW; (((try simp only [stdW, inRange, Ty.T, Ty.dflt, Nat.zero_add, Nat.add_zero, natCast_o, Bool.not_eq_true', Bool.not_eq_false', beq_iff_eq, beq_eq_false_iff_ne, decide_eq_true_eq, decide_eq_false_iff_not, ne_eq, Bool.and_eq_true, Bool.and_eq_false_iff] at *); (try simp only [Int.ofNat_eq_natCast, Int.toNat_natCast] at *)))
    rw [h5, take_all (xs := g) (by omega)]
  · obtain ⟨row, hrow⟩ : ∃ row : List Int, row = W.get (.sl 3 (.int .i64)) g (W.nat p) := ⟨_, rfl⟩
    have hf : p.toNat < g.length ∧ row = g.getD p.toNat [] := by subst hW; (((try simp only [stdW, inRange, Ty.T, Ty.dflt, Nat.zero_add, Nat.add_zero, natCast_o, Bool.not_eq_true', Bool.not_eq_false', beq_iff_eq, beq_eq_false_iff_ne, decide_eq_true_eq, decide_eq_false_iff_not, ne_eq, Bool.and_eq_true, Bool.and_eq_false_iff] at *); (try simp only [Int.ofNat_eq_natCast, Int.toNat_natCast] at *))); exact ⟨by omega, hrow⟩
    obtain ⟨hp, hrow'⟩ := hf
    have hl := row_len (xss := g) (d := []) hp
    rw [← hrow'] at hl
    refine loop_in hW (S := List Int × Nat × Int) [0, 3, 4, 5] (fun x => ⟨45, 0, false, [(0, .fs (.sl 3 (.int .i64)) 51 g), (3, .view 0 0 x.2.1), (4, .int .i64 p), (5, .int .i64 x.2.2)], [.lst (.int .i64) 3 0 x.1 none]⟩)
      (fun x => x.2.1 = 9 ∧ x.1.length = 9 ∧ 0 ≤ x.2.2 ∧ x.2.2 ≤ row.length ∧ x.1 = cntL ((g.take p.toNat).flatten ++ row.take x.2.2.toNat)) (fun x => row.length - x.2.2.toNat) (out, n, 0) (by subst hrow; subst hW; rfl) ⟨h1, h2, by simp, by simp, by simpa using h5⟩ ?_
    rintro ⟨out, n, k⟩ ⟨h1, h2, h6, h7, h8'⟩
    simp only at h1 h2 h6 h7 h8'
    have hpr : W.inB p (W.len g) := by subst hW; (((try simp only [stdW, inRange, Ty.T, Ty.dflt, Nat.zero_add, Nat.add_zero, natCast_o, Bool.not_eq_true', Bool.not_eq_false', beq_iff_eq, beq_eq_false_iff_ne, decide_eq_true_eq, decide_eq_false_iff_not, ne_eq, Bool.and_eq_true, Bool.and_eq_false_iff] at *); (try simp only [Int.ofNat_eq_natCast, Int.toNat_natCast] at *))); omega
    cbv
    repeat' (first | refine And.intro (by (first | exact trivial | (intro hh; cases hh; done) | exact lex_ok hW (by decide +kernel) | rfl | (clear hQ; subst hW; (((try simp only [stdW, inRange, Ty.T, Ty.dflt, Nat.zero_add, Nat.add_zero, natCast_o, Bool.not_eq_true', Bool.not_eq_false', beq_iff_eq, beq_eq_false_iff_ne, decide_eq_true_eq, decide_eq_false_iff_not, ne_eq, Bool.and_eq_true, Bool.and_eq_false_iff] at *); (try simp only [Int.ofNat_eq_natCast, Int.toNat_natCast] at *))); omega) | (clear hQ; subst hW; (((try simp only [stdW, inRange, Ty.T, Ty.dflt, Nat.zero_add, Nat.add_zero, natCast_o, Bool.not_eq_true', Bool.not_eq_false', beq_iff_eq, beq_eq_false_iff_ne, decide_eq_true_eq, decide_eq_false_iff_not, ne_eq, Bool.and_eq_true, Bool.and_eq_false_iff] at *); (try simp only [Int.ofNat_eq_natCast, Int.toNat_natCast] at *))); (try simp at *); (try omega); done))) ?_ | (intro c hc; cases c <;> cbv))
    · subst hW
      refine ⟨(_, _, _), rfl, ?_, ?_⟩ <;> (((try simp only [stdW, inRange, Ty.T, Ty.dflt, Nat.zero_add, Nat.add_zero, natCast_o, Bool.not_eq_true', Bool.not_eq_false', beq_iff_eq, beq_eq_false_iff_ne, decide_eq_true_eq, decide_eq_false_iff_not, ne_eq, Bool.and_eq_true, Bool.and_eq_false_iff] at *); (try simp only [Int.ofNat_eq_natCast, Int.toNat_natCast] at *)))
      · refine ⟨h1, h2, by omega, by omega, ?_⟩
        rw [← hrow] at *
        rw [h8', take_all (xs := row) (k := k.toNat) (by omega), show (p + 1).toNat = p.toNat + 1 by omega, take_flat (d := []) hp, hrow']
      · omega
    · ((try simp only [natCast_o] at *); (try simp only [Int.ofNat_eq_natCast] at *))
      obtain ⟨x, hx⟩ : ∃ x : Int, x = W.get (.int .i64) (W.get (.sl 3 (.int .i64)) g (W.nat p)) (W.nat k) := ⟨_, rfl⟩
      have hf : k.toNat < row.length ∧ x = row.getD k.toNat 0 := by subst hW; subst hrow; (((try simp only [stdW, inRange, Ty.T, Ty.dflt, Nat.zero_add, Nat.add_zero, natCast_o, Bool.not_eq_true', Bool.not_eq_false', beq_iff_eq, beq_eq_false_iff_ne, decide_eq_true_eq, decide_eq_false_iff_not, ne_eq, Bool.and_eq_true, Bool.and_eq_false_iff] at *); (try simp only [Int.ofNat_eq_natCast, Int.toNat_natCast] at *))); exact ⟨by omega, hx⟩
      obtain ⟨hk, hx'⟩ := hf
      have hm : x ∈ g.flatten := by rw [hx', hrow']; exact get_mem2 hp (by rw [← hrow']; exact hk)
      have hb := h8 x hm
      have hb' : -1000000 ≤ x ∧ x ≤ 1000000 := ⟨by omega, by omega⟩
      refine qcall_i hW Try.call182 rfl rfl (l3Abs_dc _ (by rw [hx] at hb'; exact hb')) ?_
      intro c hc2; cbv
      have hc2' : c = max x (-x) := by rw [hx]; exact hc2
      have hc3 : 0 ≤ c ∧ c ≤ 8 ∧ c.toNat = x.natAbs := by omega
      obtain ⟨hc3, hc4, hc5⟩ := hc3
      have hv : 0 ≤ out.getD c.toNat 0 ∧ out.getD c.toNat 0 ≤ 1048576 := by
        rw [h8', cntL_get _ (by omega)]
        have h9 := List.length_filter_le (fun y : Int => y.natAbs == c.toNat) ((g.take p.toNat).flatten ++ row.take k.toNat)
        rw [List.length_append, List.length_take] at h9
        omega
      repeat' (first | refine And.intro (by (first | exact trivial | (intro hh; cases hh; done) | exact lex_ok hW (by decide +kernel) | rfl | (clear hQ; subst hW; (((try simp only [stdW, inRange, Ty.T, Ty.dflt, Nat.zero_add, Nat.add_zero, natCast_o, Bool.not_eq_true', Bool.not_eq_false', beq_iff_eq, beq_eq_false_iff_ne, decide_eq_true_eq, decide_eq_false_iff_not, ne_eq, Bool.and_eq_true, Bool.and_eq_false_iff] at *); (try simp only [Int.ofNat_eq_natCast, Int.toNat_natCast] at *))); omega) | (clear hQ; subst hW; (((try simp only [stdW, inRange, Ty.T, Ty.dflt, Nat.zero_add, Nat.add_zero, natCast_o, Bool.not_eq_true', Bool.not_eq_false', beq_iff_eq, beq_eq_false_iff_ne, decide_eq_true_eq, decide_eq_false_iff_not, ne_eq, Bool.and_eq_true, Bool.and_eq_false_iff] at *); (try simp only [Int.ofNat_eq_natCast, Int.toNat_natCast] at *))); (try simp at *); (try omega); done))) ?_ | (intro c hc; cases c <;> cbv))
      refine qcall_i hW Try.call182 rfl rfl (l3Abs_dc _ (by rw [hx] at hb'; exact hb')) ?_
      intro c2 hc6; cbv
      obtain rfl : c = c2 := hc2.trans hc6.symm
      repeat' (first | refine And.intro (by (first | exact trivial | (intro hh; cases hh; done) | exact lex_ok hW (by decide +kernel) | rfl | (clear hQ; subst hW; (((try simp only [stdW, inRange, Ty.T, Ty.dflt, Nat.zero_add, Nat.add_zero, natCast_o, Bool.not_eq_true', Bool.not_eq_false', beq_iff_eq, beq_eq_false_iff_ne, decide_eq_true_eq, decide_eq_false_iff_not, ne_eq, Bool.and_eq_true, Bool.and_eq_false_iff] at *); (try simp only [Int.ofNat_eq_natCast, Int.toNat_natCast] at *))); omega) | (clear hQ; subst hW; (((try simp only [stdW, inRange, Ty.T, Ty.dflt, Nat.zero_add, Nat.add_zero, natCast_o, Bool.not_eq_true', Bool.not_eq_false', beq_iff_eq, beq_eq_false_iff_ne, decide_eq_true_eq, decide_eq_false_iff_not, ne_eq, Bool.and_eq_true, Bool.and_eq_false_iff] at *); (try simp only [Int.ofNat_eq_natCast, Int.toNat_natCast] at *))); (try simp at *); (try omega); done))) ?_ | (intro c hc; cases c <;> cbv))
      subst hW
      refine ⟨(_, _, _), rfl, ?_, ?_⟩ <;> (((try simp only [stdW, inRange, Ty.T, Ty.dflt, Nat.zero_add, Nat.add_zero, natCast_o, Bool.not_eq_true', Bool.not_eq_false', beq_iff_eq, beq_eq_false_iff_ne, decide_eq_true_eq, decide_eq_false_iff_not, ne_eq, Bool.and_eq_true, Bool.and_eq_false_iff] at *); (try simp only [Int.ofNat_eq_natCast, Int.toNat_natCast] at *)))
      · refine ⟨h1, by simpa using h2, by omega, by omega, ?_⟩
        rw [hc5, h8', cnt_snoc _ _ (by omega), show (k + 1).toNat = k.toNat + 1 by omega, take_snoc (d := 0) hk, ← hx', List.append_assoc]
      · omega
end Go.Proofs.Ytdpmfnndaaplkaa

/- Gluings. -/
namespace Go.Proofs.Ytdpmfnndaaplkaa
open Go Go.Dm Go.Proofs

def okRow (p : List Int) : Bool := !p.isEmpty && isW p
def le2 (n : Int) : Bool := decide (n ≤ 2)
def isGl (g : List (List Int)) : Bool := decide (1 ≤ g.length ∧ g.length ≤ 4) && (g.all okRow && (decide (g.flatten.length ≤ 20) && (cntL g.flatten).all le2))
theorem gl_len {g : List (List Int)} (h : ¬ (1 ≤ g.length ∧ g.length ≤ 4)) : isGl g = false := by unfold isGl; rw [decide_eq_false h]; rfl
theorem gl_row {g : List (List Int)} (h : g.all okRow = false) : isGl g = false := by unfold isGl; rw [h]; simp
theorem gl_sides {g : List (List Int)} (h : 20 < g.flatten.length) : isGl g = false := by unfold isGl; rw [decide_eq_false (show ¬ g.flatten.length ≤ 20 by omega)]; simp
theorem gl_cnt {g : List (List Int)} (h : (cntL g.flatten).all le2 = false) : isGl g = false := by unfold isGl; rw [h]; simp
theorem gl_ok {g : List (List Int)} (h1 : 1 ≤ g.length ∧ g.length ≤ 4) (h2 : g.all okRow = true) (h3 : g.flatten.length ≤ 20) (h4 : (cntL g.flatten).all le2 = true) : isGl g = true := by
  unfold isGl; rw [decide_eq_true h1, h2, decide_eq_true h3, h4]; rfl
theorem row_empty {p : List Int} (h : p.length = 0) : okRow p = false := by rw [List.eq_nil_of_length_eq_zero h]; rfl
theorem row_isW {p : List Int} {b : Bool} (h : p.length ≠ 0) (hb : b = isW p) : okRow p = b := by
  cases p with
  | nil => simp at h
  | cons x r => subst hb; rfl
theorem rows_letters {g : List (List Int)} (h : g.all okRow = true) : ∀ x ∈ g.flatten, -8 ≤ x ∧ x ≤ 8 := by
  intro x hx
  obtain ⟨p, hp, hx⟩ := List.mem_flatten.1 hx
  have h1 := List.all_eq_true.1 h p hp
  simp only [okRow, isW, Bool.and_eq_true] at h1
  have h2 := List.all_eq_true.1 h1.2.1 x hx
  simp [isL] at h2
  omega

theorem IsGluing_dc (g : List (List Int)) (hg : g.length ≤ 1048576) (hr : g.flatten.length ≤ 1048576) : DC Try.prog 157 [.fs (.sl 3 (.int .i64)) 51 g] [] fun r os => os = [] ∧ ∃ b, b = isGl g ∧ r = .bool b := by
  refine dc_go (ti := ti) (own := true) tis false mix Try.func157 rfl rfl ?_; intro W hW Q hQ; cbv
  repeat' (first | refine And.intro (by (first | exact trivial | (intro hh; cases hh; done) | exact lex_ok hW (by decide +kernel) | rfl | (clear hQ; subst hW; (((try simp only [stdW, inRange, Ty.T, Ty.dflt, Nat.zero_add, Nat.add_zero, natCast_o, Bool.not_eq_true', Bool.not_eq_false', beq_iff_eq, beq_eq_false_iff_ne, decide_eq_true_eq, decide_eq_false_iff_not, ne_eq, Bool.and_eq_true, Bool.and_eq_false_iff] at *); (try simp only [Int.ofNat_eq_natCast, Int.toNat_natCast] at *))); omega) | (clear hQ; subst hW; (((try simp only [stdW, inRange, Ty.T, Ty.dflt, Nat.zero_add, Nat.add_zero, natCast_o, Bool.not_eq_true', Bool.not_eq_false', beq_iff_eq, beq_eq_false_iff_ne, decide_eq_true_eq, decide_eq_false_iff_not, ne_eq, Bool.and_eq_true, Bool.and_eq_false_iff] at *); (try simp only [Int.ofNat_eq_natCast, Int.toNat_natCast] at *))); (try simp at *); (try omega); done))) ?_ | (intro c hc; cases c <;> cbv))
  refine call0 hW Try.call104 (within_dc _ _ _) rfl ?_
  rintro r os ⟨rfl, c, hc0, rfl⟩; cases c <;> cbv
  · refine hQ _ _ ⟨rfl, _, ?_, rfl⟩; subst hW; (((try simp only [stdW, inRange, Ty.T, Ty.dflt, Nat.zero_add, Nat.add_zero, natCast_o, Bool.not_eq_true', Bool.not_eq_false', beq_iff_eq, beq_eq_false_iff_ne, decide_eq_true_eq, decide_eq_false_iff_not, ne_eq, Bool.and_eq_true, Bool.and_eq_false_iff] at *); (try simp only [Int.ofNat_eq_natCast, Int.toNat_natCast] at *)))
    exact (gl_len (by have := of_decide_eq_false hc0.symm; omega)).symm
  · repeat' (first | refine And.intro (by (first | exact trivial | (intro hh; cases hh; done) | exact lex_ok hW (by decide +kernel) | rfl | (clear hQ; subst hW; (((try simp only [stdW, inRange, Ty.T, Ty.dflt, Nat.zero_add, Nat.add_zero, natCast_o, Bool.not_eq_true', Bool.not_eq_false', beq_iff_eq, beq_eq_false_iff_ne, decide_eq_true_eq, decide_eq_false_iff_not, ne_eq, Bool.and_eq_true, Bool.and_eq_false_iff] at *); (try simp only [Int.ofNat_eq_natCast, Int.toNat_natCast] at *))); omega) | (clear hQ; subst hW; (((try simp only [stdW, inRange, Ty.T, Ty.dflt, Nat.zero_add, Nat.add_zero, natCast_o, Bool.not_eq_true', Bool.not_eq_false', beq_iff_eq, beq_eq_false_iff_ne, decide_eq_true_eq, decide_eq_false_iff_not, ne_eq, Bool.and_eq_true, Bool.and_eq_false_iff] at *); (try simp only [Int.ofNat_eq_natCast, Int.toNat_natCast] at *))); (try simp at *); (try omega); done))) ?_ | (intro c hc; cases c <;> cbv))
    refine loop_in hW (S := Int × Int) [0, 3, 12, 13, 14] (fun x => ⟨43, 0, false, [(0, .fs (.sl 3 (.int .i64)) 51 g), (3, .int .i64 x.1), (12, .fs (.sl 3 (.int .i64)) 51 g), (13, .int .i64 (W.int (W.len g))), (14, .int .i64 x.2)], []⟩)
      (fun x => 0 ≤ x.2 ∧ x.2 ≤ g.length ∧ x.1 = (g.take x.2.toNat).flatten.length ∧ (g.take x.2.toNat).all okRow = true) (fun x => g.length - x.2.toNat) (0, 0) (by subst hW; rfl) ⟨by simp, by simp, by simp, by simp⟩ ?_
    rintro ⟨sd, i⟩ ⟨h1, h2, h3, h4⟩
    simp only at h1 h2 h3 h4
    cbv
    repeat' (first | refine And.intro (by (first | exact trivial | (intro hh; cases hh; done) | exact lex_ok hW (by decide +kernel) | rfl | (clear hQ; subst hW; (((try simp only [stdW, inRange, Ty.T, Ty.dflt, Nat.zero_add, Nat.add_zero, natCast_o, Bool.not_eq_true', Bool.not_eq_false', beq_iff_eq, beq_eq_false_iff_ne, decide_eq_true_eq, decide_eq_false_iff_not, ne_eq, Bool.and_eq_true, Bool.and_eq_false_iff] at *); (try simp only [Int.ofNat_eq_natCast, Int.toNat_natCast] at *))); omega) | (clear hQ; subst hW; (((try simp only [stdW, inRange, Ty.T, Ty.dflt, Nat.zero_add, Nat.add_zero, natCast_o, Bool.not_eq_true', Bool.not_eq_false', beq_iff_eq, beq_eq_false_iff_ne, decide_eq_true_eq, decide_eq_false_iff_not, ne_eq, Bool.and_eq_true, Bool.and_eq_false_iff] at *); (try simp only [Int.ofNat_eq_natCast, Int.toNat_natCast] at *))); (try simp at *); (try omega); done))) ?_ | (intro c hc; cases c <;> cbv))
    · have hF : (g.take i.toNat) = g ∧ (g.flatten.length : Nat) ≤ 20 ∧ (1 ≤ g.length ∧ g.length ≤ 4) := by
        subst hW; (((try simp only [stdW, inRange, Ty.T, Ty.dflt, Nat.zero_add, Nat.add_zero, natCast_o, Bool.not_eq_true', Bool.not_eq_false', beq_iff_eq, beq_eq_false_iff_ne, decide_eq_true_eq, decide_eq_false_iff_not, ne_eq, Bool.and_eq_true, Bool.and_eq_false_iff] at *); (try simp only [Int.ofNat_eq_natCast, Int.toNat_natCast] at *)))
        have e : g.take i.toNat = g := take_all (xs := g) (by omega)
        rw [e] at h3
        refine ⟨e, by omega, ?_⟩
        have := of_decide_eq_true hc0.symm
        omega
      obtain ⟨e, hf1, hf2⟩ := hF
      rw [e] at h4
      refine call0 hW Try.call186 (letterCounts_dc g hg hr (rows_letters h4)) rfl ?_
      rintro r os ⟨n, cs, hcs, hn, rfl, rfl⟩; cbv
      repeat' (first | refine And.intro (by (first | exact trivial | (intro hh; cases hh; done) | exact lex_ok hW (by decide +kernel) | rfl | (clear hQ; subst hW; (((try simp only [stdW, inRange, Ty.T, Ty.dflt, Nat.zero_add, Nat.add_zero, natCast_o, Bool.not_eq_true', Bool.not_eq_false', beq_iff_eq, beq_eq_false_iff_ne, decide_eq_true_eq, decide_eq_false_iff_not, ne_eq, Bool.and_eq_true, Bool.and_eq_false_iff] at *); (try simp only [Int.ofNat_eq_natCast, Int.toNat_natCast] at *))); omega) | (clear hQ; subst hW; (((try simp only [stdW, inRange, Ty.T, Ty.dflt, Nat.zero_add, Nat.add_zero, natCast_o, Bool.not_eq_true', Bool.not_eq_false', beq_iff_eq, beq_eq_false_iff_ne, decide_eq_true_eq, decide_eq_false_iff_not, ne_eq, Bool.and_eq_true, Bool.and_eq_false_iff] at *); (try simp only [Int.ofNat_eq_natCast, Int.toNat_natCast] at *))); (try simp at *); (try omega); done))) ?_ | (intro c hc; cases c <;> cbv))
      refine loop_in hW (S := Int) [34, 35, 36] (fun k => ⟨43, 0, false, [(34, .view 0 0 n), (35, .int .i64 (W.int n)), (36, .int .i64 k)], [.lst (.int .i64) 3 0 cs none]⟩)
        (fun k => 0 ≤ k ∧ k ≤ 9 ∧ (cs.take k.toNat).all le2 = true) (fun k => 9 - k.toNat) 0 (by subst hW; rfl) ⟨by simp, by simp, by simp⟩ ?_
      rintro k ⟨k1, k2, k3⟩
      have hl : cs.length = 9 := by rw [hcs, cntL_len]
      cbv
      repeat' (first | refine And.intro (by (first | exact trivial | (intro hh; cases hh; done) | exact lex_ok hW (by decide +kernel) | rfl | (clear hQ; subst hW; (((try simp only [stdW, inRange, Ty.T, Ty.dflt, Nat.zero_add, Nat.add_zero, natCast_o, Bool.not_eq_true', Bool.not_eq_false', beq_iff_eq, beq_eq_false_iff_ne, decide_eq_true_eq, decide_eq_false_iff_not, ne_eq, Bool.and_eq_true, Bool.and_eq_false_iff] at *); (try simp only [Int.ofNat_eq_natCast, Int.toNat_natCast] at *))); omega) | (clear hQ; subst hW; (((try simp only [stdW, inRange, Ty.T, Ty.dflt, Nat.zero_add, Nat.add_zero, natCast_o, Bool.not_eq_true', Bool.not_eq_false', beq_iff_eq, beq_eq_false_iff_ne, decide_eq_true_eq, decide_eq_false_iff_not, ne_eq, Bool.and_eq_true, Bool.and_eq_false_iff] at *); (try simp only [Int.ofNat_eq_natCast, Int.toNat_natCast] at *))); (try simp at *); (try omega); done))) ?_ | (intro c hc; cases c <;> cbv))
      · refine hQ _ _ ⟨rfl, _, ?_, rfl⟩; subst hW; (((try simp only [stdW, inRange, Ty.T, Ty.dflt, Nat.zero_add, Nat.add_zero, natCast_o, Bool.not_eq_true', Bool.not_eq_false', beq_iff_eq, beq_eq_false_iff_ne, decide_eq_true_eq, decide_eq_false_iff_not, ne_eq, Bool.and_eq_true, Bool.and_eq_false_iff] at *); (try simp only [Int.ofNat_eq_natCast, Int.toNat_natCast] at *)))
        rw [take_all (xs := cs) (by omega), hcs] at k3
        exact (gl_ok hf2 h4 hf1 k3).symm
      · subst hW
        refine ⟨_, rfl, ?_, ?_⟩ <;> (((try simp only [stdW, inRange, Ty.T, Ty.dflt, Nat.zero_add, Nat.add_zero, natCast_o, Bool.not_eq_true', Bool.not_eq_false', beq_iff_eq, beq_eq_false_iff_ne, decide_eq_true_eq, decide_eq_false_iff_not, ne_eq, Bool.and_eq_true, Bool.and_eq_false_iff] at *); (try simp only [Int.ofNat_eq_natCast, Int.toNat_natCast] at *)))
        · refine ⟨by omega, by omega, ?_⟩
          rw [show (k + 1).toNat = k.toNat + 1 by omega]
          exact all_step (d := 0) (by omega) k3 (by unfold le2; exact decide_eq_true (by omega))
        · omega
      · refine hQ _ _ ⟨rfl, _, ?_, rfl⟩; subst hW; (((try simp only [stdW, inRange, Ty.T, Ty.dflt, Nat.zero_add, Nat.add_zero, natCast_o, Bool.not_eq_true', Bool.not_eq_false', beq_iff_eq, beq_eq_false_iff_ne, decide_eq_true_eq, decide_eq_false_iff_not, ne_eq, Bool.and_eq_true, Bool.and_eq_false_iff] at *); (try simp only [Int.ofNat_eq_natCast, Int.toNat_natCast] at *)))
        have : cs.all le2 = false := all_fail (d := 0) (k := k.toNat) (by omega) (by unfold le2; exact decide_eq_false (by omega))
        rw [hcs] at this
        exact (gl_cnt this).symm
    · refine hQ _ _ ⟨rfl, _, ?_, rfl⟩; subst hW; (((try simp only [stdW, inRange, Ty.T, Ty.dflt, Nat.zero_add, Nat.add_zero, natCast_o, Bool.not_eq_true', Bool.not_eq_false', beq_iff_eq, beq_eq_false_iff_ne, decide_eq_true_eq, decide_eq_false_iff_not, ne_eq, Bool.and_eq_true, Bool.and_eq_false_iff] at *); (try simp only [Int.ofNat_eq_natCast, Int.toNat_natCast] at *)))
      rw [take_all (xs := g) (by omega)] at h3
      exact (gl_sides (by omega)).symm
    · have hb : ((W.get (.sl 3 (.int .i64)) g (W.nat i)).length : Nat) ≤ 4611686018427387904 := by
        subst hW; (((try simp only [stdW, inRange, Ty.T, Ty.dflt, Nat.zero_add, Nat.add_zero, natCast_o, Bool.not_eq_true', Bool.not_eq_false', beq_iff_eq, beq_eq_false_iff_ne, decide_eq_true_eq, decide_eq_false_iff_not, ne_eq, Bool.and_eq_true, Bool.and_eq_false_iff] at *); (try simp only [Int.ofNat_eq_natCast, Int.toNat_natCast] at *)))
        have := row_len (xss := g) (d := []) (k := i.toNat) (by omega)
        omega
      refine call0 hW Try.call185 (IsWord_dc _ hb) rfl ?_
      rintro r os ⟨rfl, c, hc2, rfl⟩; cases c <;> cbv
      · refine hQ _ _ ⟨rfl, _, ?_, rfl⟩; subst hW; (((try simp only [stdW, inRange, Ty.T, Ty.dflt, Nat.zero_add, Nat.add_zero, natCast_o, Bool.not_eq_true', Bool.not_eq_false', beq_iff_eq, beq_eq_false_iff_ne, decide_eq_true_eq, decide_eq_false_iff_not, ne_eq, Bool.and_eq_true, Bool.and_eq_false_iff] at *); (try simp only [Int.ofNat_eq_natCast, Int.toNat_natCast] at *)))
        exact (gl_row (all_fail (d := []) (k := i.toNat) (by omega) (row_isW (by omega) hc2))).symm
      · have hb2 : ((W.get (.sl 3 (.int .i64)) g (W.nat i)).length : Nat) + (g.take i.toNat).flatten.length ≤ 1048576 := by
          subst hW; (((try simp only [stdW, inRange, Ty.T, Ty.dflt, Nat.zero_add, Nat.add_zero, natCast_o, Bool.not_eq_true', Bool.not_eq_false', beq_iff_eq, beq_eq_false_iff_ne, decide_eq_true_eq, decide_eq_false_iff_not, ne_eq, Bool.and_eq_true, Bool.and_eq_false_iff] at *); (try simp only [Int.ofNat_eq_natCast, Int.toNat_natCast] at *)))
          have := row_len (xss := g) (d := []) (k := i.toNat) (by omega)
          omega
        ((try simp only [natCast_o] at *); (try simp only [Int.ofNat_eq_natCast] at *))
        repeat' (first | refine And.intro (by (first | exact trivial | (intro hh; cases hh; done) | exact lex_ok hW (by decide +kernel) | rfl | (clear hQ; subst hW; (((try simp only [stdW, inRange, Ty.T, Ty.dflt, Nat.zero_add, Nat.add_zero, natCast_o, Bool.not_eq_true', Bool.not_eq_false', beq_iff_eq, beq_eq_false_iff_ne, decide_eq_true_eq, decide_eq_false_iff_not, ne_eq, Bool.and_eq_true, Bool.and_eq_false_iff] at *); (try simp only [Int.ofNat_eq_natCast, Int.toNat_natCast] at *))); omega) | (clear hQ; subst hW; (((try simp only [stdW, inRange, Ty.T, Ty.dflt, Nat.zero_add, Nat.add_zero, natCast_o, Bool.not_eq_true', Bool.not_eq_false', beq_iff_eq, beq_eq_false_iff_ne, decide_eq_true_eq, decide_eq_false_iff_not, ne_eq, Bool.and_eq_true, Bool.and_eq_false_iff] at *); (try simp only [Int.ofNat_eq_natCast, Int.toNat_natCast] at *))); (try simp at *); (try omega); done))) ?_ | (intro c hc; cases c <;> cbv))
        subst hW
        refine ⟨(_, _), rfl, ?_, ?_⟩ <;> (((try simp only [stdW, inRange, Ty.T, Ty.dflt, Nat.zero_add, Nat.add_zero, natCast_o, Bool.not_eq_true', Bool.not_eq_false', beq_iff_eq, beq_eq_false_iff_ne, decide_eq_true_eq, decide_eq_false_iff_not, ne_eq, Bool.and_eq_true, Bool.and_eq_false_iff] at *); (try simp only [Int.ofNat_eq_natCast, Int.toNat_natCast] at *)))
        · refine ⟨by omega, by omega, ?_, ?_⟩
          · rw [show (i + 1).toNat = i.toNat + 1 by omega, take_flat (d := []) (by omega), List.length_append]; omega
          · rw [show (i + 1).toNat = i.toNat + 1 by omega]
            exact all_step (d := []) (by omega) h4 (row_isW (by omega) hc2)
        · omega
    · refine hQ _ _ ⟨rfl, _, ?_, rfl⟩; subst hW; (((try simp only [stdW, inRange, Ty.T, Ty.dflt, Nat.zero_add, Nat.add_zero, natCast_o, Bool.not_eq_true', Bool.not_eq_false', beq_iff_eq, beq_eq_false_iff_ne, decide_eq_true_eq, decide_eq_false_iff_not, ne_eq, Bool.and_eq_true, Bool.and_eq_false_iff] at *); (try simp only [Int.ofNat_eq_natCast, Int.toNat_natCast] at *)))
      exact (gl_row (all_fail (d := []) (k := i.toNat) (by omega) (row_empty (by omega)))).symm

theorem spec_IsGluing_dc (g : List (List Int)) (hg : g.length ≤ 1048576) (hr : g.flatten.length ≤ 1048576) : DC Try.prog 90 [.fs (.sl 3 (.int .i64)) 51 g] [] fun r os => os = [] ∧ ∃ b, b = isGl g ∧ r = .bool b := by
  refine dc_go (ti := ti) (own := true) tis false mix Try.func90 rfl rfl ?_; intro W hW Q hQ; cbv
  refine loop_in hW (S := Int × Int) [0, 3, 4] (fun x => ⟨55, 0, false, [(0, .fs (.sl 3 (.int .i64)) 51 g), (3, .int .i64 x.1), (4, .int .i64 x.2)], []⟩)
      (fun x => 0 ≤ x.2 ∧ x.2 ≤ g.length ∧ x.1 = (g.take x.2.toNat).flatten.length ∧ (g.take x.2.toNat).all okRow = true) (fun x => g.length - x.2.toNat) (0, 0) (by subst hW; rfl) ⟨by simp, by simp, by simp, by simp⟩ ?_
  rintro ⟨sd, i⟩ ⟨h1, h2, h3, h4⟩
  simp only at h1 h2 h3 h4
  cbv
  repeat' (first | refine And.intro (by (first | exact trivial | (intro hh; cases hh; done) | exact lex_ok hW (by decide +kernel) | rfl | (clear hQ; subst hW; (((try simp only [stdW, inRange, Ty.T, Ty.dflt, Nat.zero_add, Nat.add_zero, natCast_o, Bool.not_eq_true', Bool.not_eq_false', beq_iff_eq, beq_eq_false_iff_ne, decide_eq_true_eq, decide_eq_false_iff_not, ne_eq, Bool.and_eq_true, Bool.and_eq_false_iff] at *); (try simp only [Int.ofNat_eq_natCast, Int.toNat_natCast] at *))); omega) | (clear hQ; subst hW; (((try simp only [stdW, inRange, Ty.T, Ty.dflt, Nat.zero_add, Nat.add_zero, natCast_o, Bool.not_eq_true', Bool.not_eq_false', beq_iff_eq, beq_eq_false_iff_ne, decide_eq_true_eq, decide_eq_false_iff_not, ne_eq, Bool.and_eq_true, Bool.and_eq_false_iff] at *); (try simp only [Int.ofNat_eq_natCast, Int.toNat_natCast] at *))); (try simp at *); (try omega); done))) ?_ | (intro c hc; cases c <;> cbv))
  · refine call0 hW Try.call106 (l1In_dc _ _ _) rfl ?_
    rintro r os ⟨rfl, c, hc0, rfl⟩; cases c <;> cbv
    · refine hQ _ _ ⟨rfl, _, ?_, rfl⟩; subst hW; (((try simp only [stdW, inRange, Ty.T, Ty.dflt, Nat.zero_add, Nat.add_zero, natCast_o, Bool.not_eq_true', Bool.not_eq_false', beq_iff_eq, beq_eq_false_iff_ne, decide_eq_true_eq, decide_eq_false_iff_not, ne_eq, Bool.and_eq_true, Bool.and_eq_false_iff] at *); (try simp only [Int.ofNat_eq_natCast, Int.toNat_natCast] at *)))
      exact (gl_len (by have := of_decide_eq_false hc0.symm; omega)).symm
    · repeat' (first | refine And.intro (by (first | exact trivial | (intro hh; cases hh; done) | exact lex_ok hW (by decide +kernel) | rfl | (clear hQ; subst hW; (((try simp only [stdW, inRange, Ty.T, Ty.dflt, Nat.zero_add, Nat.add_zero, natCast_o, Bool.not_eq_true', Bool.not_eq_false', beq_iff_eq, beq_eq_false_iff_ne, decide_eq_true_eq, decide_eq_false_iff_not, ne_eq, Bool.and_eq_true, Bool.and_eq_false_iff] at *); (try simp only [Int.ofNat_eq_natCast, Int.toNat_natCast] at *))); omega) | (clear hQ; subst hW; (((try simp only [stdW, inRange, Ty.T, Ty.dflt, Nat.zero_add, Nat.add_zero, natCast_o, Bool.not_eq_true', Bool.not_eq_false', beq_iff_eq, beq_eq_false_iff_ne, decide_eq_true_eq, decide_eq_false_iff_not, ne_eq, Bool.and_eq_true, Bool.and_eq_false_iff] at *); (try simp only [Int.ofNat_eq_natCast, Int.toNat_natCast] at *))); (try simp at *); (try omega); done))) ?_ | (intro c hc; cases c <;> cbv))
      · have hF : (g.take i.toNat) = g ∧ (g.flatten.length : Nat) ≤ 20 ∧ (1 ≤ g.length ∧ g.length ≤ 4) := by
          subst hW; (((try simp only [stdW, inRange, Ty.T, Ty.dflt, Nat.zero_add, Nat.add_zero, natCast_o, Bool.not_eq_true', Bool.not_eq_false', beq_iff_eq, beq_eq_false_iff_ne, decide_eq_true_eq, decide_eq_false_iff_not, ne_eq, Bool.and_eq_true, Bool.and_eq_false_iff] at *); (try simp only [Int.ofNat_eq_natCast, Int.toNat_natCast] at *)))
          have e : g.take i.toNat = g := take_all (xs := g) (by omega)
          rw [e] at h3
          refine ⟨e, by omega, ?_⟩
          have := of_decide_eq_true hc0.symm
          omega
        obtain ⟨e, hf1, hf2⟩ := hF
        rw [e] at h4
        refine call0 hW Try.call151 (l3Uses_dc g hg hr (rows_letters h4)) rfl ?_
        rintro r os ⟨n, cs, hcs, hn, rfl, rfl⟩; cbv
        repeat' (first | refine And.intro (by (first | exact trivial | (intro hh; cases hh; done) | exact lex_ok hW (by decide +kernel) | rfl | (clear hQ; subst hW; (((try simp only [stdW, inRange, Ty.T, Ty.dflt, Nat.zero_add, Nat.add_zero, natCast_o, Bool.not_eq_true', Bool.not_eq_false', beq_iff_eq, beq_eq_false_iff_ne, decide_eq_true_eq, decide_eq_false_iff_not, ne_eq, Bool.and_eq_true, Bool.and_eq_false_iff] at *); (try simp only [Int.ofNat_eq_natCast, Int.toNat_natCast] at *))); omega) | (clear hQ; subst hW; (((try simp only [stdW, inRange, Ty.T, Ty.dflt, Nat.zero_add, Nat.add_zero, natCast_o, Bool.not_eq_true', Bool.not_eq_false', beq_iff_eq, beq_eq_false_iff_ne, decide_eq_true_eq, decide_eq_false_iff_not, ne_eq, Bool.and_eq_true, Bool.and_eq_false_iff] at *); (try simp only [Int.ofNat_eq_natCast, Int.toNat_natCast] at *))); (try simp at *); (try omega); done))) ?_ | (intro c hc; cases c <;> cbv))
        refine loop_in hW (S := Int) [5, 6] (fun k => ⟨55, 0, false, [(5, .view 0 0 n), (6, .int .i64 k)], [.lst (.int .i64) 3 0 cs none]⟩)
          (fun k => 0 ≤ k ∧ k ≤ 9 ∧ (cs.take k.toNat).all le2 = true) (fun k => 9 - k.toNat) 0 (by subst hW; rfl) ⟨by simp, by simp, by simp⟩ ?_
        rintro k ⟨k1, k2, k3⟩
        have hl : cs.length = 9 := by rw [hcs, cntL_len]
        cbv
        repeat' (first | refine And.intro (by (first | exact trivial | (intro hh; cases hh; done) | exact lex_ok hW (by decide +kernel) | rfl | (clear hQ; subst hW; (((try simp only [stdW, inRange, Ty.T, Ty.dflt, Nat.zero_add, Nat.add_zero, natCast_o, Bool.not_eq_true', Bool.not_eq_false', beq_iff_eq, beq_eq_false_iff_ne, decide_eq_true_eq, decide_eq_false_iff_not, ne_eq, Bool.and_eq_true, Bool.and_eq_false_iff] at *); (try simp only [Int.ofNat_eq_natCast, Int.toNat_natCast] at *))); omega) | (clear hQ; subst hW; (((try simp only [stdW, inRange, Ty.T, Ty.dflt, Nat.zero_add, Nat.add_zero, natCast_o, Bool.not_eq_true', Bool.not_eq_false', beq_iff_eq, beq_eq_false_iff_ne, decide_eq_true_eq, decide_eq_false_iff_not, ne_eq, Bool.and_eq_true, Bool.and_eq_false_iff] at *); (try simp only [Int.ofNat_eq_natCast, Int.toNat_natCast] at *))); (try simp at *); (try omega); done))) ?_ | (intro c hc; cases c <;> cbv))
        · refine hQ _ _ ⟨rfl, _, ?_, rfl⟩; subst hW; (((try simp only [stdW, inRange, Ty.T, Ty.dflt, Nat.zero_add, Nat.add_zero, natCast_o, Bool.not_eq_true', Bool.not_eq_false', beq_iff_eq, beq_eq_false_iff_ne, decide_eq_true_eq, decide_eq_false_iff_not, ne_eq, Bool.and_eq_true, Bool.and_eq_false_iff] at *); (try simp only [Int.ofNat_eq_natCast, Int.toNat_natCast] at *)))
          rw [take_all (xs := cs) (by omega), hcs] at k3
          exact (gl_ok hf2 h4 hf1 k3).symm
        · subst hW
          refine ⟨_, rfl, ?_, ?_⟩ <;> (((try simp only [stdW, inRange, Ty.T, Ty.dflt, Nat.zero_add, Nat.add_zero, natCast_o, Bool.not_eq_true', Bool.not_eq_false', beq_iff_eq, beq_eq_false_iff_ne, decide_eq_true_eq, decide_eq_false_iff_not, ne_eq, Bool.and_eq_true, Bool.and_eq_false_iff] at *); (try simp only [Int.ofNat_eq_natCast, Int.toNat_natCast] at *)))
          · refine ⟨by omega, by omega, ?_⟩
            rw [show (k + 1).toNat = k.toNat + 1 by omega]
            exact all_step (d := 0) (by omega) k3 (by unfold le2; exact decide_eq_true (by omega))
          · omega
        · refine hQ _ _ ⟨rfl, _, ?_, rfl⟩; subst hW; (((try simp only [stdW, inRange, Ty.T, Ty.dflt, Nat.zero_add, Nat.add_zero, natCast_o, Bool.not_eq_true', Bool.not_eq_false', beq_iff_eq, beq_eq_false_iff_ne, decide_eq_true_eq, decide_eq_false_iff_not, ne_eq, Bool.and_eq_true, Bool.and_eq_false_iff] at *); (try simp only [Int.ofNat_eq_natCast, Int.toNat_natCast] at *)))
          have : cs.all le2 = false := all_fail (d := 0) (k := k.toNat) (by omega) (by unfold le2; exact decide_eq_false (by omega))
          rw [hcs] at this
          exact (gl_cnt this).symm
      · refine hQ _ _ ⟨rfl, _, ?_, rfl⟩; subst hW; (((try simp only [stdW, inRange, Ty.T, Ty.dflt, Nat.zero_add, Nat.add_zero, natCast_o, Bool.not_eq_true', Bool.not_eq_false', beq_iff_eq, beq_eq_false_iff_ne, decide_eq_true_eq, decide_eq_false_iff_not, ne_eq, Bool.and_eq_true, Bool.and_eq_false_iff] at *); (try simp only [Int.ofNat_eq_natCast, Int.toNat_natCast] at *)))
        rw [take_all (xs := g) (by omega)] at h3
        exact (gl_sides (by omega)).symm
  · have hb : ((W.get (.sl 3 (.int .i64)) g (W.nat i)).length : Nat) ≤ 4611686018427387904 := by
      subst hW; (((try simp only [stdW, inRange, Ty.T, Ty.dflt, Nat.zero_add, Nat.add_zero, natCast_o, Bool.not_eq_true', Bool.not_eq_false', beq_iff_eq, beq_eq_false_iff_ne, decide_eq_true_eq, decide_eq_false_iff_not, ne_eq, Bool.and_eq_true, Bool.and_eq_false_iff] at *); (try simp only [Int.ofNat_eq_natCast, Int.toNat_natCast] at *)))
      have := row_len (xss := g) (d := []) (k := i.toNat) (by omega)
      omega
    refine call0 hW Try.call150 (spec_IsWord_dc _ hb) rfl ?_
    rintro r os ⟨rfl, c, hc2, rfl⟩; cases c <;> cbv
    · refine hQ _ _ ⟨rfl, _, ?_, rfl⟩; subst hW; (((try simp only [stdW, inRange, Ty.T, Ty.dflt, Nat.zero_add, Nat.add_zero, natCast_o, Bool.not_eq_true', Bool.not_eq_false', beq_iff_eq, beq_eq_false_iff_ne, decide_eq_true_eq, decide_eq_false_iff_not, ne_eq, Bool.and_eq_true, Bool.and_eq_false_iff] at *); (try simp only [Int.ofNat_eq_natCast, Int.toNat_natCast] at *)))
      exact (gl_row (all_fail (d := []) (k := i.toNat) (by omega) (row_isW (by omega) hc2))).symm
    · have hb2 : ((W.get (.sl 3 (.int .i64)) g (W.nat i)).length : Nat) + (g.take i.toNat).flatten.length ≤ 1048576 := by
        subst hW; (((try simp only [stdW, inRange, Ty.T, Ty.dflt, Nat.zero_add, Nat.add_zero, natCast_o, Bool.not_eq_true', Bool.not_eq_false', beq_iff_eq, beq_eq_false_iff_ne, decide_eq_true_eq, decide_eq_false_iff_not, ne_eq, Bool.and_eq_true, Bool.and_eq_false_iff] at *); (try simp only [Int.ofNat_eq_natCast, Int.toNat_natCast] at *)))
        have := row_len (xss := g) (d := []) (k := i.toNat) (by omega)
        omega
      ((try simp only [natCast_o] at *); (try simp only [Int.ofNat_eq_natCast] at *))
      repeat' (first | refine And.intro (by (first | exact trivial | (intro hh; cases hh; done) | exact lex_ok hW (by decide +kernel) | rfl | (clear hQ; subst hW; (((try simp only [stdW, inRange, Ty.T, Ty.dflt, Nat.zero_add, Nat.add_zero, natCast_o, Bool.not_eq_true', Bool.not_eq_false', beq_iff_eq, beq_eq_false_iff_ne, decide_eq_true_eq, decide_eq_false_iff_not, ne_eq, Bool.and_eq_true, Bool.and_eq_false_iff] at *); (try simp only [Int.ofNat_eq_natCast, Int.toNat_natCast] at *))); omega) | (clear hQ; subst hW; (((try simp only [stdW, inRange, Ty.T, Ty.dflt, Nat.zero_add, Nat.add_zero, natCast_o, Bool.not_eq_true', Bool.not_eq_false', beq_iff_eq, beq_eq_false_iff_ne, decide_eq_true_eq, decide_eq_false_iff_not, ne_eq, Bool.and_eq_true, Bool.and_eq_false_iff] at *); (try simp only [Int.ofNat_eq_natCast, Int.toNat_natCast] at *))); (try simp at *); (try omega); done))) ?_ | (intro c hc; cases c <;> cbv))
      subst hW
      refine ⟨(_, _), rfl, ?_, ?_⟩ <;> (((try simp only [stdW, inRange, Ty.T, Ty.dflt, Nat.zero_add, Nat.add_zero, natCast_o, Bool.not_eq_true', Bool.not_eq_false', beq_iff_eq, beq_eq_false_iff_ne, decide_eq_true_eq, decide_eq_false_iff_not, ne_eq, Bool.and_eq_true, Bool.and_eq_false_iff] at *); (try simp only [Int.ofNat_eq_natCast, Int.toNat_natCast] at *)))
      · refine ⟨by omega, by omega, ?_, ?_⟩
        · rw [show (i + 1).toNat = i.toNat + 1 by omega, take_flat (d := []) (by omega), List.length_append]; omega
        · rw [show (i + 1).toNat = i.toNat + 1 by omega]
          exact all_step (d := []) (by omega) h4 (row_isW (by omega) hc2)
      · omega
  · refine hQ _ _ ⟨rfl, _, ?_, rfl⟩; subst hW; (((try simp only [stdW, inRange, Ty.T, Ty.dflt, Nat.zero_add, Nat.add_zero, natCast_o, Bool.not_eq_true', Bool.not_eq_false', beq_iff_eq, beq_eq_false_iff_ne, decide_eq_true_eq, decide_eq_false_iff_not, ne_eq, Bool.and_eq_true, Bool.and_eq_false_iff] at *); (try simp only [Int.ofNat_eq_natCast, Int.toNat_natCast] at *)))
    exact (gl_row (all_fail (d := []) (k := i.toNat) (by omega) (row_empty (by omega)))).symm
end Go.Proofs.Ytdpmfnndaaplkaa

/- Gluings out of their texts. -/
namespace Go.Proofs.Ytdpmfnndaaplkaa
open Go Go.Dm Go.Proofs

/-- The words of a row of texts. -/
def wordsOf : List (List UInt8) → Option (List (List Int))
  | [] => some []
  | s :: r => match parseW s, wordsOf r with | some w, some g => some (w :: g) | _, _ => none
def parseG (s : List UInt8) : Option (List (List Int)) := match wordsOf (splitB 32 s) with | none => none | some g => match isGl g with | true => some g | false => none

theorem wordsOf_snoc : ∀ (ss : List (List UInt8)) (s : List UInt8) (g : List (List Int)) (w : List Int), wordsOf ss = some g → parseW s = some w → wordsOf (ss ++ [s]) = some (g ++ [w])
  | [], s, g, w, h, hx => by simp [wordsOf] at h; subst h; simp [wordsOf, hx]
  | y :: r, s, g, w, h, hx => by
    simp only [wordsOf] at h
    split at h
    · rename_i b v h1 h2
      cases h
      simp only [List.cons_append, wordsOf, h1, wordsOf_snoc r s v w h2 hx]
    · cases h
theorem wordsOf_none : ∀ (ss t : List (List UInt8)) (s : List UInt8), parseW s = none → wordsOf (ss ++ s :: t) = none
  | [], t, s, hx => by simp [wordsOf, hx]
  | y :: r, t, s, hx => by simp only [List.cons_append, wordsOf, wordsOf_none r t s hx]; split <;> simp_all

theorem splitB_total (c : Int) (s : List UInt8) : (splitB c s).flatten.length + (splitB c s).length = s.length + 1 := by
  induction s with
  | nil => rfl
  | cons x r ih =>
    simp only [splitB]
    split
    · simp only [List.flatten_cons, List.length_append, List.length_cons, List.length_nil]; omega
    · split
      · rename_i h t e
        rw [e] at ih
        simp only [List.flatten_cons, List.length_append, List.length_cons] at ih ⊢
        omega
      · rename_i e; exact absurd e (splitB_ne c r)

theorem parseW_len {s : List UInt8} {w : List Int} (h : parseW s = some w) : w.length ≤ s.length ∧ w.length ≤ 24 := by
  unfold parseW at h
  split at h
  · cases h; simp
  · split at h
    · cases h
    · rename_i v hv
      split at h
      · cases h
      · rename_i hn
        cases h
        exact ⟨by rw [lettersOf_len _ _ hv]; exact Nat.le_refl _, by omega⟩

theorem wordsOf_len : ∀ (ss : List (List UInt8)) (g : List (List Int)), wordsOf ss = some g → g.length = ss.length ∧ g.flatten.length ≤ ss.flatten.length
  | [], g, h => by simp [wordsOf] at h; subst h; simp
  | s :: r, g, h => by
    simp only [wordsOf] at h
    split at h
    · rename_i w v h1 h2
      cases h
      have := wordsOf_len r v h2
      have := parseW_len h1
      simp only [List.flatten_cons, List.length_append, List.length_cons]; omega
    · cases h
theorem wordsOf_get : ∀ (ss : List (List UInt8)) (g : List (List Int)) (i : Nat), wordsOf ss = some g → i < ss.length → parseW (ss.getD i []) = some (g.getD i [])
  | [], g, i, h, hi => by simp at hi
  | s :: r, g, i, h, hi => by
    simp only [wordsOf] at h
    split at h
    · rename_i w v h1 h2
      cases h
      cases i with
      | zero => simpa using h1
      | succ i => simpa using wordsOf_get r v i h2 (by simpa using hi)
    · cases h
theorem parseW_full {s : List UInt8} {w : List Int} (h : parseW s = some w) (hw : w ≠ []) : w.length = s.length := by
  unfold parseW at h
  split at h
  · cases h; exact absurd rfl hw
  · split at h
    · cases h
    · rename_i v hv
      split at h
      · cases h
      · cases h; exact lettersOf_len _ _ hv
theorem wordsOf_full : ∀ (ss : List (List UInt8)) (g : List (List Int)), wordsOf ss = some g → g.all okRow = true → g.flatten.length = ss.flatten.length
  | [], g, h, _ => by simp [wordsOf] at h; subst h; simp
  | s :: r, g, h, ha => by
    simp only [wordsOf] at h
    split at h
    · rename_i w v h1 h2
      cases h
      simp only [List.all_cons, Bool.and_eq_true] at ha
      have := wordsOf_full r v h2 ha.2
      have := parseW_full h1 (by rintro rfl; simp [okRow] at ha)
      simp only [List.flatten_cons, List.length_append]; omega
    · cases h
theorem isGl_true {g : List (List Int)} (h : isGl g = true) : (1 ≤ g.length ∧ g.length ≤ 4) ∧ g.all okRow = true ∧ g.flatten.length ≤ 20 := by
  unfold isGl at h
  simp only [Bool.and_eq_true, decide_eq_true_eq] at h
  exact ⟨h.1, h.2.1, h.2.2.1⟩
theorem parseG_long {s : List UInt8} (h : 24 < s.length) : parseG s = none := by
  unfold parseG
  split
  · rfl
  · rename_i g hg
    split
    · rename_i hi
      obtain ⟨h1, h2, h3⟩ := isGl_true hi
      have h4 := wordsOf_full _ _ hg h2
      have h5 := splitB_total 32 s
      have h6 := wordsOf_len _ _ hg
      omega
    · rfl
theorem parseG_bad {s : List UInt8} {ps : List (List UInt8)} {i : Nat} (hp : ps = splitB 32 s) (hi : i < ps.length) (hw : parseW (ps.getD i []) = none) : parseG s = none := by
  unfold parseG
  have e : ps = ps.take i ++ ps.getD i [] :: ps.drop (i + 1) := by
    conv => lhs; rw [← List.take_append_drop i ps]
    congr 1
    rw [List.drop_eq_getElem_cons hi, getD_lt' hi]
  rw [← hp, e, wordsOf_none _ _ _ hw]
theorem parseG_empty {s : List UInt8} {ps : List (List UInt8)} {i : Nat} {w : List Int} (hp : ps = splitB 32 s) (hi : i < ps.length) (hw : parseW (ps.getD i []) = some w) (h0 : w.length = 0) : parseG s = none := by
  unfold parseG
  rw [← hp]
  split
  · rfl
  · rename_i g hg
    have := wordsOf_get _ _ i hg hi
    rw [hw] at this
    cases this
    rw [gl_row (all_fail (d := []) (k := i) (by rw [(wordsOf_len _ _ hg).1]; exact hi) (row_empty h0))]
theorem parseG_yes {s : List UInt8} {ps : List (List UInt8)} {g : List (List Int)} (hp : ps = splitB 32 s) (hg : wordsOf ps = some g) (hb : true = isGl g) : parseG s = some g := by
  unfold parseG; rw [← hp, hg]; simp only [← hb]
theorem parseG_no {s : List UInt8} {ps : List (List UInt8)} {g : List (List Int)} (hp : ps = splitB 32 s) (hg : wordsOf ps = some g) (hb : false = isGl g) : parseG s = none := by
  unfold parseG; rw [← hp, hg]; simp only [← hb]

theorem ParseGluing_dc (s : List UInt8) (hs : s.length ≤ 1000) : DC Try.prog 110 [.str s] [] fun r os =>
    (parseG s = none ∧ r = .tup [.nilsl, .bool false] ∧ os = []) ∨
    ∃ n g, parseG s = some g ∧ n = g.length ∧ r = .tup [.view 0 0 n, .bool true] ∧ os = [.lst (.sl 3 (.int .i64)) 51 1 g none] := by
  refine dc_go (ti := ti) (own := true) tis false mix Try.func110 rfl rfl ?_; intro W hW Q hQ; cbv
  repeat' (first | refine And.intro (by (first | exact trivial | (intro hh; cases hh; done) | exact lex_ok hW (by decide +kernel) | rfl | (clear hQ; subst hW; (((try simp only [stdW, inRange, Ty.T, Ty.dflt, Nat.zero_add, Nat.add_zero, natCast_o, Bool.not_eq_true', Bool.not_eq_false', beq_iff_eq, beq_eq_false_iff_ne, decide_eq_true_eq, decide_eq_false_iff_not, ne_eq, Bool.and_eq_true, Bool.and_eq_false_iff] at *); (try simp only [Int.ofNat_eq_natCast, Int.toNat_natCast] at *))); omega) | (clear hQ; subst hW; (((try simp only [stdW, inRange, Ty.T, Ty.dflt, Nat.zero_add, Nat.add_zero, natCast_o, Bool.not_eq_true', Bool.not_eq_false', beq_iff_eq, beq_eq_false_iff_ne, decide_eq_true_eq, decide_eq_false_iff_not, ne_eq, Bool.and_eq_true, Bool.and_eq_false_iff] at *); (try simp only [Int.ofNat_eq_natCast, Int.toNat_natCast] at *))); (try simp at *); (try omega); done))) ?_ | (intro c hc; cases c <;> cbv))
  · refine call0 hW Try.call156 (SplitByte_dc s _ (by omega)) rfl ?_
    rintro r os ⟨np, ps, hps, hnp, rfl, rfl⟩; cbv
    repeat' (first | refine And.intro (by (first | exact trivial | (intro hh; cases hh; done) | exact lex_ok hW (by decide +kernel) | rfl | (clear hQ; subst hW; (((try simp only [stdW, inRange, Ty.T, Ty.dflt, Nat.zero_add, Nat.add_zero, natCast_o, Bool.not_eq_true', Bool.not_eq_false', beq_iff_eq, beq_eq_false_iff_ne, decide_eq_true_eq, decide_eq_false_iff_not, ne_eq, Bool.and_eq_true, Bool.and_eq_false_iff] at *); (try simp only [Int.ofNat_eq_natCast, Int.toNat_natCast] at *))); omega) | (clear hQ; subst hW; (((try simp only [stdW, inRange, Ty.T, Ty.dflt, Nat.zero_add, Nat.add_zero, natCast_o, Bool.not_eq_true', Bool.not_eq_false', beq_iff_eq, beq_eq_false_iff_ne, decide_eq_true_eq, decide_eq_false_iff_not, ne_eq, Bool.and_eq_true, Bool.and_eq_false_iff] at *); (try simp only [Int.ofNat_eq_natCast, Int.toNat_natCast] at *))); (try simp at *); (try omega); done))) ?_ | (intro c hc; cases c <;> cbv))
    refine loop_in hW (S := List (List Int) × Nat × Int) [4, 14, 15, 16] (fun x => ⟨36, 0, false, [(4, .view 0 0 x.2.1), (14, .view 1 0 np), (15, .int .i64 (W.int np)), (16, .int .i64 x.2.2)], [.lst (.sl 3 (.int .i64)) 51 1 x.1 none, .lst .str 9 0 ps none]⟩)
      (fun x => x.2.1 = x.1.length ∧ 0 ≤ x.2.2 ∧ x.2.2 ≤ np ∧ wordsOf (ps.take x.2.2.toNat) = some x.1) (fun x => np - x.2.2.toNat) ([], 0, 0) (by subst hW; rfl) ⟨rfl, by simp, by simp, by simp [wordsOf]⟩ ?_
    rintro ⟨g, n, i⟩ ⟨h1, h2, h3, h4⟩
    simp only at h1 h2 h3 h4
    have hsp := splitB_total 32 s
    rw [← hps] at hsp
    have hl := wordsOf_len _ _ h4
    have hl2 : (ps.take i.toNat).flatten.length ≤ ps.flatten.length := by
      conv => rhs; rw [← List.take_append_drop i.toNat ps, List.flatten_append, List.length_append]
      omega
    have hl3 : g.length ≤ 1001 := by rw [hl.1, List.length_take]; omega
    cbv
    repeat' (first | refine And.intro (by (first | exact trivial | (intro hh; cases hh; done) | exact lex_ok hW (by decide +kernel) | rfl | (clear hQ; subst hW; (((try simp only [stdW, inRange, Ty.T, Ty.dflt, Nat.zero_add, Nat.add_zero, natCast_o, Bool.not_eq_true', Bool.not_eq_false', beq_iff_eq, beq_eq_false_iff_ne, decide_eq_true_eq, decide_eq_false_iff_not, ne_eq, Bool.and_eq_true, Bool.and_eq_false_iff] at *); (try simp only [Int.ofNat_eq_natCast, Int.toNat_natCast] at *))); omega) | (clear hQ; subst hW; (((try simp only [stdW, inRange, Ty.T, Ty.dflt, Nat.zero_add, Nat.add_zero, natCast_o, Bool.not_eq_true', Bool.not_eq_false', beq_iff_eq, beq_eq_false_iff_ne, decide_eq_true_eq, decide_eq_false_iff_not, ne_eq, Bool.and_eq_true, Bool.and_eq_false_iff] at *); (try simp only [Int.ofNat_eq_natCast, Int.toNat_natCast] at *))); (try simp at *); (try omega); done))) ?_ | (intro c hc; cases c <;> cbv))
    · refine call_in hW true _ Try.call157 rfl (IsGluing_dc (W.ext g 0 n) (by subst hW; (((try simp only [stdW, inRange, Ty.T, Ty.dflt, Nat.zero_add, Nat.add_zero, natCast_o, Bool.not_eq_true', Bool.not_eq_false', beq_iff_eq, beq_eq_false_iff_ne, decide_eq_true_eq, decide_eq_false_iff_not, ne_eq, Bool.and_eq_true, Bool.and_eq_false_iff] at *); (try simp only [Int.ofNat_eq_natCast, Int.toNat_natCast] at *))); rw [h1, List.drop_zero, List.take_length]; omega) (by subst hW; (((try simp only [stdW, inRange, Ty.T, Ty.dflt, Nat.zero_add, Nat.add_zero, natCast_o, Bool.not_eq_true', Bool.not_eq_false', beq_iff_eq, beq_eq_false_iff_ne, decide_eq_true_eq, decide_eq_false_iff_not, ne_eq, Bool.and_eq_true, Bool.and_eq_false_iff] at *); (try simp only [Int.ofNat_eq_natCast, Int.toNat_natCast] at *))); rw [h1, List.drop_zero, List.take_length]; omega)) ?_
      rintro r os ⟨rfl, b, hb, rfl⟩
      refine ⟨fun _ => ⟨rfl, rfl⟩, ?_⟩
      have hb' : b = isGl g := by rw [hb]; subst hW; (((try simp only [stdW, inRange, Ty.T, Ty.dflt, Nat.zero_add, Nat.add_zero, natCast_o, Bool.not_eq_true', Bool.not_eq_false', beq_iff_eq, beq_eq_false_iff_ne, decide_eq_true_eq, decide_eq_false_iff_not, ne_eq, Bool.and_eq_true, Bool.and_eq_false_iff] at *); (try simp only [Int.ofNat_eq_natCast, Int.toNat_natCast] at *))); rw [h1]; simp
      have he : wordsOf ps = some g := by
        subst hW; (((try simp only [stdW, inRange, Ty.T, Ty.dflt, Nat.zero_add, Nat.add_zero, natCast_o, Bool.not_eq_true', Bool.not_eq_false', beq_iff_eq, beq_eq_false_iff_ne, decide_eq_true_eq, decide_eq_false_iff_not, ne_eq, Bool.and_eq_true, Bool.and_eq_false_iff] at *); (try simp only [Int.ofNat_eq_natCast, Int.toNat_natCast] at *)))
        rw [take_all (xs := ps) (by omega)] at h4; exact h4
      cases b <;> cbv
      · exact hQ _ _ (.inl ⟨parseG_no hps he hb', rfl, rfl⟩)
      · exact hQ _ _ (.inr ⟨_, _, parseG_yes hps he hb', h1, rfl, rfl⟩)
    · obtain ⟨p, hp⟩ : ∃ p : List UInt8, p = W.get .str ps (W.addN 0 (W.nat i)) := ⟨_, rfl⟩
      have hf : i.toNat < ps.length ∧ p = ps.getD i.toNat [] := by subst hW; (((try simp only [stdW, inRange, Ty.T, Ty.dflt, Nat.zero_add, Nat.add_zero, natCast_o, Bool.not_eq_true', Bool.not_eq_false', beq_iff_eq, beq_eq_false_iff_ne, decide_eq_true_eq, decide_eq_false_iff_not, ne_eq, Bool.and_eq_true, Bool.and_eq_false_iff] at *); (try simp only [Int.ofNat_eq_natCast, Int.toNat_natCast] at *))); exact ⟨by omega, hp⟩
      obtain ⟨hi, hp'⟩ := hf
      have hpl : p.length ≤ 1048576 := by
        have := row_len (xss := ps) (d := []) hi
        rw [hp']; omega
      refine call0 hW Try.call148 (ParseWord_dc _ (by rw [hp] at hpl; exact hpl)) rfl ?_
      rintro r os (⟨hw, rfl, rfl⟩ | ⟨wn, w, hw, hwn, rfl, rfl⟩) <;> cbv
      · have hw' : parseW p = none := by rw [hp]; exact hw
        rw [hp'] at hw'
        exact hQ _ _ (.inl ⟨parseG_bad hps hi hw', rfl, rfl⟩)
      · have hw' : parseW p = some w := by rw [hp]; exact hw
        rw [hp'] at hw'
        repeat' (first | refine And.intro (by (first | exact trivial | (intro hh; cases hh; done) | exact lex_ok hW (by decide +kernel) | rfl | (clear hQ; subst hW; (((try simp only [stdW, inRange, Ty.T, Ty.dflt, Nat.zero_add, Nat.add_zero, natCast_o, Bool.not_eq_true', Bool.not_eq_false', beq_iff_eq, beq_eq_false_iff_ne, decide_eq_true_eq, decide_eq_false_iff_not, ne_eq, Bool.and_eq_true, Bool.and_eq_false_iff] at *); (try simp only [Int.ofNat_eq_natCast, Int.toNat_natCast] at *))); omega) | (clear hQ; subst hW; (((try simp only [stdW, inRange, Ty.T, Ty.dflt, Nat.zero_add, Nat.add_zero, natCast_o, Bool.not_eq_true', Bool.not_eq_false', beq_iff_eq, beq_eq_false_iff_ne, decide_eq_true_eq, decide_eq_false_iff_not, ne_eq, Bool.and_eq_true, Bool.and_eq_false_iff] at *); (try simp only [Int.ofNat_eq_natCast, Int.toNat_natCast] at *))); (try simp at *); (try omega); done))) ?_ | (intro c hc; cases c <;> cbv))
        subst hW
        refine ⟨(_, _, _), rfl, ?_, ?_⟩ <;> (((try simp only [stdW, inRange, Ty.T, Ty.dflt, Nat.zero_add, Nat.add_zero, natCast_o, Bool.not_eq_true', Bool.not_eq_false', beq_iff_eq, beq_eq_false_iff_ne, decide_eq_true_eq, decide_eq_false_iff_not, ne_eq, Bool.and_eq_true, Bool.and_eq_false_iff] at *); (try simp only [Int.ofNat_eq_natCast, Int.toNat_natCast] at *)))
        · refine ⟨by rw [app1 h1, app1n h1], by omega, by omega, ?_⟩
          rw [app1 h1, show (i + 1).toNat = i.toNat + 1 by omega, take_snoc (d := []) hi]
          have e : (w.drop 0).take wn = w := by subst hwn; simp
          rw [e]
          exact wordsOf_snoc _ _ _ _ h4 hw'
        · omega
  · refine hQ _ _ (.inl ⟨?_, rfl, rfl⟩); subst hW; (((try simp only [stdW, inRange, Ty.T, Ty.dflt, Nat.zero_add, Nat.add_zero, natCast_o, Bool.not_eq_true', Bool.not_eq_false', beq_iff_eq, beq_eq_false_iff_ne, decide_eq_true_eq, decide_eq_false_iff_not, ne_eq, Bool.and_eq_true, Bool.and_eq_false_iff] at *); (try simp only [Int.ofNat_eq_natCast, Int.toNat_natCast] at *)))
    exact parseG_long (by omega)

theorem spec_ParseGluing_dc (s : List UInt8) (hs : s.length ≤ 1000) : DC Try.prog 108 [.str s] [] fun r os =>
    (parseG s = none ∧ r = .tup [.view 0 0 0, .bool false] ∧ os = [.lst (.sl 3 (.int .i64)) 51 1 [] none]) ∨
    ∃ n g, parseG s = some g ∧ n = g.length ∧ r = .tup [.view 0 0 n, .bool true] ∧ os = [.lst (.sl 3 (.int .i64)) 51 1 g none] := by
  refine dc_go (ti := ti) (own := true) tis false mix Try.func108 rfl rfl ?_; intro W hW Q hQ; cbv
  repeat' (first | refine And.intro (by (first | exact trivial | (intro hh; cases hh; done) | exact lex_ok hW (by decide +kernel) | rfl | (clear hQ; subst hW; (((try simp only [stdW, inRange, Ty.T, Ty.dflt, Nat.zero_add, Nat.add_zero, natCast_o, Bool.not_eq_true', Bool.not_eq_false', beq_iff_eq, beq_eq_false_iff_ne, decide_eq_true_eq, decide_eq_false_iff_not, ne_eq, Bool.and_eq_true, Bool.and_eq_false_iff] at *); (try simp only [Int.ofNat_eq_natCast, Int.toNat_natCast] at *))); omega) | (clear hQ; subst hW; (((try simp only [stdW, inRange, Ty.T, Ty.dflt, Nat.zero_add, Nat.add_zero, natCast_o, Bool.not_eq_true', Bool.not_eq_false', beq_iff_eq, beq_eq_false_iff_ne, decide_eq_true_eq, decide_eq_false_iff_not, ne_eq, Bool.and_eq_true, Bool.and_eq_false_iff] at *); (try simp only [Int.ofNat_eq_natCast, Int.toNat_natCast] at *))); (try simp at *); (try omega); done))) ?_ | (intro c hc; cases c <;> cbv))
  refine call0 hW Try.call155 (spec_SplitByte_dc s _ (by omega)) rfl ?_
  rintro r os ⟨np, ps, hps, hnp, rfl, rfl⟩; cbv
  repeat' (first | refine And.intro (by (first | exact trivial | (intro hh; cases hh; done) | exact lex_ok hW (by decide +kernel) | rfl | (clear hQ; subst hW; (((try simp only [stdW, inRange, Ty.T, Ty.dflt, Nat.zero_add, Nat.add_zero, natCast_o, Bool.not_eq_true', Bool.not_eq_false', beq_iff_eq, beq_eq_false_iff_ne, decide_eq_true_eq, decide_eq_false_iff_not, ne_eq, Bool.and_eq_true, Bool.and_eq_false_iff] at *); (try simp only [Int.ofNat_eq_natCast, Int.toNat_natCast] at *))); omega) | (clear hQ; subst hW; (((try simp only [stdW, inRange, Ty.T, Ty.dflt, Nat.zero_add, Nat.add_zero, natCast_o, Bool.not_eq_true', Bool.not_eq_false', beq_iff_eq, beq_eq_false_iff_ne, decide_eq_true_eq, decide_eq_false_iff_not, ne_eq, Bool.and_eq_true, Bool.and_eq_false_iff] at *); (try simp only [Int.ofNat_eq_natCast, Int.toNat_natCast] at *))); (try simp at *); (try omega); done))) ?_ | (intro c hc; cases c <;> cbv))
  refine loop_in hW (S := List (List Int) × Nat × Int) [4, 5, 6] (fun x => ⟨43, 0, false, [(4, .view 0 0 x.2.1), (5, .view 1 0 np), (6, .int .i64 x.2.2)], [.lst (.sl 3 (.int .i64)) 51 1 x.1 none, .lst .str 9 0 ps none]⟩)
    (fun x => x.2.1 = x.1.length ∧ 0 ≤ x.2.2 ∧ x.2.2 ≤ np ∧ wordsOf (ps.take x.2.2.toNat) = some x.1) (fun x => np - x.2.2.toNat) ([], 0, 0) (by subst hW; rfl) ⟨rfl, by simp, by simp, by simp [wordsOf]⟩ ?_
  rintro ⟨g, n, i⟩ ⟨h1, h2, h3, h4⟩
  simp only at h1 h2 h3 h4
  have hsp := splitB_total 32 s
  rw [← hps] at hsp
  have hl := wordsOf_len _ _ h4
  have hl2 : (ps.take i.toNat).flatten.length ≤ ps.flatten.length := by
    conv => rhs; rw [← List.take_append_drop i.toNat ps, List.flatten_append, List.length_append]
    omega
  have hl3 : g.length ≤ 1001 := by rw [hl.1, List.length_take]; omega
  cbv
  repeat' (first | refine And.intro (by (first | exact trivial | (intro hh; cases hh; done) | exact lex_ok hW (by decide +kernel) | rfl | (clear hQ; subst hW; (((try simp only [stdW, inRange, Ty.T, Ty.dflt, Nat.zero_add, Nat.add_zero, natCast_o, Bool.not_eq_true', Bool.not_eq_false', beq_iff_eq, beq_eq_false_iff_ne, decide_eq_true_eq, decide_eq_false_iff_not, ne_eq, Bool.and_eq_true, Bool.and_eq_false_iff] at *); (try simp only [Int.ofNat_eq_natCast, Int.toNat_natCast] at *))); omega) | (clear hQ; subst hW; (((try simp only [stdW, inRange, Ty.T, Ty.dflt, Nat.zero_add, Nat.add_zero, natCast_o, Bool.not_eq_true', Bool.not_eq_false', beq_iff_eq, beq_eq_false_iff_ne, decide_eq_true_eq, decide_eq_false_iff_not, ne_eq, Bool.and_eq_true, Bool.and_eq_false_iff] at *); (try simp only [Int.ofNat_eq_natCast, Int.toNat_natCast] at *))); (try simp at *); (try omega); done))) ?_ | (intro c hc; cases c <;> cbv))
  · refine call_in hW true _ Try.call90 rfl (spec_IsGluing_dc (W.ext g 0 n) (by subst hW; (((try simp only [stdW, inRange, Ty.T, Ty.dflt, Nat.zero_add, Nat.add_zero, natCast_o, Bool.not_eq_true', Bool.not_eq_false', beq_iff_eq, beq_eq_false_iff_ne, decide_eq_true_eq, decide_eq_false_iff_not, ne_eq, Bool.and_eq_true, Bool.and_eq_false_iff] at *); (try simp only [Int.ofNat_eq_natCast, Int.toNat_natCast] at *))); rw [h1, List.drop_zero, List.take_length]; omega) (by subst hW; (((try simp only [stdW, inRange, Ty.T, Ty.dflt, Nat.zero_add, Nat.add_zero, natCast_o, Bool.not_eq_true', Bool.not_eq_false', beq_iff_eq, beq_eq_false_iff_ne, decide_eq_true_eq, decide_eq_false_iff_not, ne_eq, Bool.and_eq_true, Bool.and_eq_false_iff] at *); (try simp only [Int.ofNat_eq_natCast, Int.toNat_natCast] at *))); rw [h1, List.drop_zero, List.take_length]; omega)) ?_
    rintro r os ⟨rfl, b, hb, rfl⟩
    refine ⟨fun _ => ⟨rfl, rfl⟩, ?_⟩
    have hb' : b = isGl g := by rw [hb]; subst hW; (((try simp only [stdW, inRange, Ty.T, Ty.dflt, Nat.zero_add, Nat.add_zero, natCast_o, Bool.not_eq_true', Bool.not_eq_false', beq_iff_eq, beq_eq_false_iff_ne, decide_eq_true_eq, decide_eq_false_iff_not, ne_eq, Bool.and_eq_true, Bool.and_eq_false_iff] at *); (try simp only [Int.ofNat_eq_natCast, Int.toNat_natCast] at *))); rw [h1]; simp
    have he : wordsOf ps = some g := by
      subst hW; (((try simp only [stdW, inRange, Ty.T, Ty.dflt, Nat.zero_add, Nat.add_zero, natCast_o, Bool.not_eq_true', Bool.not_eq_false', beq_iff_eq, beq_eq_false_iff_ne, decide_eq_true_eq, decide_eq_false_iff_not, ne_eq, Bool.and_eq_true, Bool.and_eq_false_iff] at *); (try simp only [Int.ofNat_eq_natCast, Int.toNat_natCast] at *)))
      rw [take_all (xs := ps) (by omega)] at h4; exact h4
    cases b <;> cbv
    · repeat' (first | refine And.intro (by (first | exact trivial | (intro hh; cases hh; done) | exact lex_ok hW (by decide +kernel) | rfl | (clear hQ; subst hW; (((try simp only [stdW, inRange, Ty.T, Ty.dflt, Nat.zero_add, Nat.add_zero, natCast_o, Bool.not_eq_true', Bool.not_eq_false', beq_iff_eq, beq_eq_false_iff_ne, decide_eq_true_eq, decide_eq_false_iff_not, ne_eq, Bool.and_eq_true, Bool.and_eq_false_iff] at *); (try simp only [Int.ofNat_eq_natCast, Int.toNat_natCast] at *))); omega) | (clear hQ; subst hW; (((try simp only [stdW, inRange, Ty.T, Ty.dflt, Nat.zero_add, Nat.add_zero, natCast_o, Bool.not_eq_true', Bool.not_eq_false', beq_iff_eq, beq_eq_false_iff_ne, decide_eq_true_eq, decide_eq_false_iff_not, ne_eq, Bool.and_eq_true, Bool.and_eq_false_iff] at *); (try simp only [Int.ofNat_eq_natCast, Int.toNat_natCast] at *))); (try simp at *); (try omega); done))) ?_ | (intro c hc; cases c <;> cbv))
      exact hQ _ _ (.inl ⟨parseG_no hps he hb', rfl, rfl⟩)
    · exact hQ _ _ (.inr ⟨_, _, parseG_yes hps he hb', h1, rfl, rfl⟩)
  · obtain ⟨p, hp⟩ : ∃ p : List UInt8, p = W.get .str ps (W.addN 0 (W.nat i)) := ⟨_, rfl⟩
    have hf : i.toNat < ps.length ∧ p = ps.getD i.toNat [] := by subst hW; (((try simp only [stdW, inRange, Ty.T, Ty.dflt, Nat.zero_add, Nat.add_zero, natCast_o, Bool.not_eq_true', Bool.not_eq_false', beq_iff_eq, beq_eq_false_iff_ne, decide_eq_true_eq, decide_eq_false_iff_not, ne_eq, Bool.and_eq_true, Bool.and_eq_false_iff] at *); (try simp only [Int.ofNat_eq_natCast, Int.toNat_natCast] at *))); exact ⟨by omega, hp⟩
    obtain ⟨hi, hp'⟩ := hf
    have hpl : p.length ≤ 1048576 := by
      have := row_len (xss := ps) (d := []) hi
      rw [hp']; omega
    refine call0 hW Try.call149 (spec_ParseWord_dc _ (by rw [hp] at hpl; exact hpl)) rfl ?_
    rintro r os (⟨hw, rfl, rfl⟩ | ⟨wn, w, hw, hwn, rfl, rfl⟩) <;> cbv
    · have hw' : parseW p = none := by rw [hp]; exact hw
      rw [hp'] at hw'
      repeat' (first | refine And.intro (by (first | exact trivial | (intro hh; cases hh; done) | exact lex_ok hW (by decide +kernel) | rfl | (clear hQ; subst hW; (((try simp only [stdW, inRange, Ty.T, Ty.dflt, Nat.zero_add, Nat.add_zero, natCast_o, Bool.not_eq_true', Bool.not_eq_false', beq_iff_eq, beq_eq_false_iff_ne, decide_eq_true_eq, decide_eq_false_iff_not, ne_eq, Bool.and_eq_true, Bool.and_eq_false_iff] at *); (try simp only [Int.ofNat_eq_natCast, Int.toNat_natCast] at *))); omega) | (clear hQ; subst hW; (((try simp only [stdW, inRange, Ty.T, Ty.dflt, Nat.zero_add, Nat.add_zero, natCast_o, Bool.not_eq_true', Bool.not_eq_false', beq_iff_eq, beq_eq_false_iff_ne, decide_eq_true_eq, decide_eq_false_iff_not, ne_eq, Bool.and_eq_true, Bool.and_eq_false_iff] at *); (try simp only [Int.ofNat_eq_natCast, Int.toNat_natCast] at *))); (try simp at *); (try omega); done))) ?_ | (intro c hc; cases c <;> cbv))
      exact hQ _ _ (.inl ⟨parseG_bad hps hi hw', rfl, rfl⟩)
    · have hw' : parseW p = some w := by rw [hp]; exact hw
      rw [hp'] at hw'
      repeat' (first | refine And.intro (by (first | exact trivial | (intro hh; cases hh; done) | exact lex_ok hW (by decide +kernel) | rfl | (clear hQ; subst hW; (((try simp only [stdW, inRange, Ty.T, Ty.dflt, Nat.zero_add, Nat.add_zero, natCast_o, Bool.not_eq_true', Bool.not_eq_false', beq_iff_eq, beq_eq_false_iff_ne, decide_eq_true_eq, decide_eq_false_iff_not, ne_eq, Bool.and_eq_true, Bool.and_eq_false_iff] at *); (try simp only [Int.ofNat_eq_natCast, Int.toNat_natCast] at *))); omega) | (clear hQ; subst hW; (((try simp only [stdW, inRange, Ty.T, Ty.dflt, Nat.zero_add, Nat.add_zero, natCast_o, Bool.not_eq_true', Bool.not_eq_false', beq_iff_eq, beq_eq_false_iff_ne, decide_eq_true_eq, decide_eq_false_iff_not, ne_eq, Bool.and_eq_true, Bool.and_eq_false_iff] at *); (try simp only [Int.ofNat_eq_natCast, Int.toNat_natCast] at *))); (try simp at *); (try omega); done))) ?_ | (intro c hc; cases c <;> cbv))
      · subst hW
        refine ⟨(_, _, _), rfl, ?_, ?_⟩ <;> (((try simp only [stdW, inRange, Ty.T, Ty.dflt, Nat.zero_add, Nat.add_zero, natCast_o, Bool.not_eq_true', Bool.not_eq_false', beq_iff_eq, beq_eq_false_iff_ne, decide_eq_true_eq, decide_eq_false_iff_not, ne_eq, Bool.and_eq_true, Bool.and_eq_false_iff] at *); (try simp only [Int.ofNat_eq_natCast, Int.toNat_natCast] at *)))
        · refine ⟨by rw [app1 h1, app1n h1], by omega, by omega, ?_⟩
          rw [app1 h1, show (i + 1).toNat = i.toNat + 1 by omega, take_snoc (d := []) hi]
          have e : (w.drop 0).take wn = w := by subst hwn; simp
          rw [e]
          exact wordsOf_snoc _ _ _ _ h4 hw'
        · omega
      · refine hQ _ _ (.inl ⟨parseG_empty hps hi hw' ?_, rfl, rfl⟩)
        subst hW; (((try simp only [stdW, inRange, Ty.T, Ty.dflt, Nat.zero_add, Nat.add_zero, natCast_o, Bool.not_eq_true', Bool.not_eq_false', beq_iff_eq, beq_eq_false_iff_ne, decide_eq_true_eq, decide_eq_false_iff_not, ne_eq, Bool.and_eq_true, Bool.and_eq_false_iff] at *); (try simp only [Int.ofNat_eq_natCast, Int.toNat_natCast] at *))); omega
end Go.Proofs.Ytdpmfnndaaplkaa

/- The examples of gluings. -/
namespace Go.Proofs.Ytdpmfnndaaplkaa
open Go Go.Dm Go.Proofs

def exTexts : List (List UInt8) := [[97, 98, 65, 66], [97, 98, 65, 66, 99, 100, 67, 68], [97, 97, 98, 98], [97, 98, 99, 65, 66, 67], [97, 98, 65, 99, 32, 100, 67, 98, 68], [97, 97, 98, 99, 66, 67]]
def exG (k : Int) : Option (List (List Int)) := parseG (if 1 ≤ k ∧ k ≤ 6 then exTexts.getD (k - 1).toNat [] else [])
theorem exG_no {k : Int} (h : ¬ (1 ≤ k ∧ k ≤ 6)) : exG k = none := by unfold exG; rw [if_neg h]; decide
theorem exG_in {k : Int} (h : 1 ≤ k ∧ k ≤ 6) : exG k = parseG (exTexts.getD (k - 1).toNat []) := by unfold exG; rw [if_pos h]
theorem ex_len {k : Nat} (h : k < 6) : (exTexts.getD k []).length ≤ 1000 := by
  match k, h with
  | 0, _ => decide
  | 1, _ => decide
  | 2, _ => decide
  | 3, _ => decide
  | 4, _ => decide
  | 5, _ => decide

theorem ExampleGluing_dc (k : Int) (hk : inRange .i64 k) : DC Try.prog 36 [.int .i64 k] [] fun r os =>
    (exG k = none ∧ r = .tup [.nilsl, .bool false] ∧ os = []) ∨ ∃ n g, exG k = some g ∧ n = g.length ∧ r = .tup [.view 0 0 n, .bool true] ∧ os = [.lst (.sl 3 (.int .i64)) 51 1 g none] := by
  refine dc_go (ti := ti) (own := true) tis false mix Try.func36 rfl rfl ?_; intro W hW Q hQ; cbv
  repeat' (first | refine And.intro (by (first | exact trivial | (intro hh; cases hh; done) | exact lex_ok hW (by decide +kernel) | rfl | (clear hQ; subst hW; (((try simp only [stdW, inRange, Ty.T, Ty.dflt, Nat.zero_add, Nat.add_zero, natCast_o, Bool.not_eq_true', Bool.not_eq_false', beq_iff_eq, beq_eq_false_iff_ne, decide_eq_true_eq, decide_eq_false_iff_not, ne_eq, Bool.and_eq_true, Bool.and_eq_false_iff] at *); (try simp only [Int.ofNat_eq_natCast, Int.toNat_natCast] at *))); omega) | (clear hQ; subst hW; (((try simp only [stdW, inRange, Ty.T, Ty.dflt, Nat.zero_add, Nat.add_zero, natCast_o, Bool.not_eq_true', Bool.not_eq_false', beq_iff_eq, beq_eq_false_iff_ne, decide_eq_true_eq, decide_eq_false_iff_not, ne_eq, Bool.and_eq_true, Bool.and_eq_false_iff] at *); (try simp only [Int.ofNat_eq_natCast, Int.toNat_natCast] at *))); (try simp at *); (try omega); done))) ?_ | (intro c hc; cases c <;> cbv))
  refine call0 hW Try.call104 (within_dc _ _ _) rfl ?_
  rintro r os ⟨rfl, c, hc0, rfl⟩; cases c <;> cbv
  · refine hQ _ _ (.inl ⟨exG_no ?_, rfl, rfl⟩)
    subst hW; (((try simp only [stdW, inRange, Ty.T, Ty.dflt, Nat.zero_add, Nat.add_zero, natCast_o, Bool.not_eq_true', Bool.not_eq_false', beq_iff_eq, beq_eq_false_iff_ne, decide_eq_true_eq, decide_eq_false_iff_not, ne_eq, Bool.and_eq_true, Bool.and_eq_false_iff] at *); (try simp only [Int.ofNat_eq_natCast, Int.toNat_natCast] at *)))
    have := of_decide_eq_false hc0.symm; exact this
  · have hk2 : 1 ≤ k ∧ k ≤ 6 := by subst hW; (((try simp only [stdW, inRange, Ty.T, Ty.dflt, Nat.zero_add, Nat.add_zero, natCast_o, Bool.not_eq_true', Bool.not_eq_false', beq_iff_eq, beq_eq_false_iff_ne, decide_eq_true_eq, decide_eq_false_iff_not, ne_eq, Bool.and_eq_true, Bool.and_eq_false_iff] at *); (try simp only [Int.ofNat_eq_natCast, Int.toNat_natCast] at *))); exact of_decide_eq_true hc0.symm
    obtain ⟨hk3, hk4⟩ := hk2
    repeat' (first | refine And.intro (by (first | exact trivial | (intro hh; cases hh; done) | exact lex_ok hW (by decide +kernel) | rfl | (clear hQ; subst hW; (((try simp only [stdW, inRange, Ty.T, Ty.dflt, Nat.zero_add, Nat.add_zero, natCast_o, Bool.not_eq_true', Bool.not_eq_false', beq_iff_eq, beq_eq_false_iff_ne, decide_eq_true_eq, decide_eq_false_iff_not, ne_eq, Bool.and_eq_true, Bool.and_eq_false_iff] at *); (try simp only [Int.ofNat_eq_natCast, Int.toNat_natCast] at *))); omega) | (clear hQ; subst hW; (((try simp only [stdW, inRange, Ty.T, Ty.dflt, Nat.zero_add, Nat.add_zero, natCast_o, Bool.not_eq_true', Bool.not_eq_false', beq_iff_eq, beq_eq_false_iff_ne, decide_eq_true_eq, decide_eq_false_iff_not, ne_eq, Bool.and_eq_true, Bool.and_eq_false_iff] at *); (try simp only [Int.ofNat_eq_natCast, Int.toNat_natCast] at *))); (try simp at *); (try omega); done))) ?_ | (intro c hc; cases c <;> cbv))
    obtain ⟨t, ht⟩ : ∃ t : List UInt8, t = W.get .str exTexts (W.addN 0 (W.nat (W.sub k 1))) := ⟨_, rfl⟩
    have ht' : t = exTexts.getD (k - 1).toNat [] := by subst hW; (((try simp only [stdW, inRange, Ty.T, Ty.dflt, Nat.zero_add, Nat.add_zero, natCast_o, Bool.not_eq_true', Bool.not_eq_false', beq_iff_eq, beq_eq_false_iff_ne, decide_eq_true_eq, decide_eq_false_iff_not, ne_eq, Bool.and_eq_true, Bool.and_eq_false_iff] at *); (try simp only [Int.ofNat_eq_natCast, Int.toNat_natCast] at *))); exact ht
    have hl : t.length ≤ 1000 := by rw [ht']; exact ex_len (by omega)
    have hG : exG k = parseG t := by rw [ht']; exact exG_in ⟨hk3, hk4⟩
    refine call0 hW Try.call110 (ParseGluing_dc _ (by rw [ht] at hl; exact hl)) rfl ?_
    rintro r os (⟨h1, rfl, rfl⟩ | ⟨n, g, h1, hn, rfl, rfl⟩) <;> cbv
    · exact hQ _ _ (.inl ⟨by rw [hG, ht]; exact h1, rfl, rfl⟩)
    · exact hQ _ _ (.inr ⟨_, _, by rw [hG, ht]; exact h1, hn, rfl, rfl⟩)

theorem l23Text_dc (ts : List (List UInt8)) (k : Int) (hk : inRange .i64 k) (ht : ts.length ≤ 1048576) : DC Try.prog 109 [.fs .str 9 ts, .int .i64 k] [] fun r os => os = [] ∧ ∃ s, s = (if 1 ≤ k ∧ k ≤ ts.length then ts.getD (k - 1).toNat [] else []) ∧ r = .str s := by
  refine dc_go (ti := ti) (own := true) tis false mix Try.func109 rfl rfl ?_; intro W hW Q hQ; cbv
  repeat' (first | refine And.intro (by (first | exact trivial | (intro hh; cases hh; done) | exact lex_ok hW (by decide +kernel) | rfl | (clear hQ; subst hW; (((try simp only [stdW, inRange, Ty.T, Ty.dflt, Nat.zero_add, Nat.add_zero, natCast_o, Bool.not_eq_true', Bool.not_eq_false', beq_iff_eq, beq_eq_false_iff_ne, decide_eq_true_eq, decide_eq_false_iff_not, ne_eq, Bool.and_eq_true, Bool.and_eq_false_iff] at *); (try simp only [Int.ofNat_eq_natCast, Int.toNat_natCast] at *))); omega) | (clear hQ; subst hW; (((try simp only [stdW, inRange, Ty.T, Ty.dflt, Nat.zero_add, Nat.add_zero, natCast_o, Bool.not_eq_true', Bool.not_eq_false', beq_iff_eq, beq_eq_false_iff_ne, decide_eq_true_eq, decide_eq_false_iff_not, ne_eq, Bool.and_eq_true, Bool.and_eq_false_iff] at *); (try simp only [Int.ofNat_eq_natCast, Int.toNat_natCast] at *))); (try simp at *); (try omega); done))) ?_ | (intro c hc; cases c <;> cbv))
  refine call0 hW Try.call106 (l1In_dc _ _ _) rfl ?_
  rintro r os ⟨rfl, c, hc0, rfl⟩; cases c <;> cbv
  · refine hQ _ _ ⟨rfl, _, ?_, rfl⟩
    subst hW; (((try simp only [stdW, inRange, Ty.T, Ty.dflt, Nat.zero_add, Nat.add_zero, natCast_o, Bool.not_eq_true', Bool.not_eq_false', beq_iff_eq, beq_eq_false_iff_ne, decide_eq_true_eq, decide_eq_false_iff_not, ne_eq, Bool.and_eq_true, Bool.and_eq_false_iff] at *); (try simp only [Int.ofNat_eq_natCast, Int.toNat_natCast] at *)))
    rw [if_neg (of_decide_eq_false hc0.symm)]
  · have hk2 : 1 ≤ k ∧ k ≤ ts.length := by subst hW; (((try simp only [stdW, inRange, Ty.T, Ty.dflt, Nat.zero_add, Nat.add_zero, natCast_o, Bool.not_eq_true', Bool.not_eq_false', beq_iff_eq, beq_eq_false_iff_ne, decide_eq_true_eq, decide_eq_false_iff_not, ne_eq, Bool.and_eq_true, Bool.and_eq_false_iff] at *); (try simp only [Int.ofNat_eq_natCast, Int.toNat_natCast] at *))); exact of_decide_eq_true hc0.symm
    obtain ⟨hk3, hk4⟩ := hk2
    ((try simp only [natCast_o] at *); (try simp only [Int.ofNat_eq_natCast] at *))
    repeat' (first | refine And.intro (by (first | exact trivial | (intro hh; cases hh; done) | exact lex_ok hW (by decide +kernel) | rfl | (clear hQ; subst hW; (((try simp only [stdW, inRange, Ty.T, Ty.dflt, Nat.zero_add, Nat.add_zero, natCast_o, Bool.not_eq_true', Bool.not_eq_false', beq_iff_eq, beq_eq_false_iff_ne, decide_eq_true_eq, decide_eq_false_iff_not, ne_eq, Bool.and_eq_true, Bool.and_eq_false_iff] at *); (try simp only [Int.ofNat_eq_natCast, Int.toNat_natCast] at *))); omega) | (clear hQ; subst hW; (((try simp only [stdW, inRange, Ty.T, Ty.dflt, Nat.zero_add, Nat.add_zero, natCast_o, Bool.not_eq_true', Bool.not_eq_false', beq_iff_eq, beq_eq_false_iff_ne, decide_eq_true_eq, decide_eq_false_iff_not, ne_eq, Bool.and_eq_true, Bool.and_eq_false_iff] at *); (try simp only [Int.ofNat_eq_natCast, Int.toNat_natCast] at *))); (try simp at *); (try omega); done))) ?_ | (intro c hc; cases c <;> cbv))
    refine hQ _ _ ⟨rfl, _, ?_, rfl⟩
    subst hW; (((try simp only [stdW, inRange, Ty.T, Ty.dflt, Nat.zero_add, Nat.add_zero, natCast_o, Bool.not_eq_true', Bool.not_eq_false', beq_iff_eq, beq_eq_false_iff_ne, decide_eq_true_eq, decide_eq_false_iff_not, ne_eq, Bool.and_eq_true, Bool.and_eq_false_iff] at *); (try simp only [Int.ofNat_eq_natCast, Int.toNat_natCast] at *)))
    rw [if_pos ⟨hk3, hk4⟩]

theorem spec_ExampleGluing_dc (k : Int) (hk : inRange .i64 k) : DC Try.prog 35 [.int .i64 k] [] fun r os =>
    (exG k = none ∧ r = .tup [.view 0 0 0, .bool false] ∧ os = [.lst (.sl 3 (.int .i64)) 51 1 [] none]) ∨ ∃ n g, exG k = some g ∧ n = g.length ∧ r = .tup [.view 0 0 n, .bool true] ∧ os = [.lst (.sl 3 (.int .i64)) 51 1 g none] := by
  refine dc_go (ti := ti) (own := true) tis false mix Try.func35 rfl rfl ?_; intro W hW Q hQ; cbv
  repeat' (first | refine And.intro (by (first | exact trivial | (intro hh; cases hh; done) | exact lex_ok hW (by decide +kernel) | rfl | (clear hQ; subst hW; (((try simp only [stdW, inRange, Ty.T, Ty.dflt, Nat.zero_add, Nat.add_zero, natCast_o, Bool.not_eq_true', Bool.not_eq_false', beq_iff_eq, beq_eq_false_iff_ne, decide_eq_true_eq, decide_eq_false_iff_not, ne_eq, Bool.and_eq_true, Bool.and_eq_false_iff] at *); (try simp only [Int.ofNat_eq_natCast, Int.toNat_natCast] at *))); omega) | (clear hQ; subst hW; (((try simp only [stdW, inRange, Ty.T, Ty.dflt, Nat.zero_add, Nat.add_zero, natCast_o, Bool.not_eq_true', Bool.not_eq_false', beq_iff_eq, beq_eq_false_iff_ne, decide_eq_true_eq, decide_eq_false_iff_not, ne_eq, Bool.and_eq_true, Bool.and_eq_false_iff] at *); (try simp only [Int.ofNat_eq_natCast, Int.toNat_natCast] at *))); (try simp at *); (try omega); done))) ?_ | (intro c hc; cases c <;> cbv))
  have he : W.ext exTexts 0 6 = exTexts := by subst hW; rfl
  refine call_in hW true _ Try.call109 rfl (l23Text_dc (W.ext exTexts 0 6) k hk (by rw [he]; decide)) ?_
  rintro r os ⟨rfl, t, ht, rfl⟩
  refine ⟨fun _ => ⟨rfl, rfl⟩, ?_⟩
  cbv
  rw [he] at ht
  have ht2 : t = (if 1 ≤ k ∧ k ≤ 6 then exTexts.getD (k - 1).toNat [] else []) := ht
  have hl : t.length ≤ 1000 := by
    rw [ht2]; split
    · exact ex_len (by omega)
    · simp
  refine call0 hW Try.call108 (spec_ParseGluing_dc _ hl) rfl ?_
  have hG : exG k = parseG t := by rw [ht2]; rfl
  rintro r os (⟨h1, rfl, rfl⟩ | ⟨n, g, h1, hn, rfl, rfl⟩) <;> cbv
  · exact hQ _ _ (.inl ⟨by rw [hG]; exact h1, rfl, rfl⟩)
  · exact hQ _ _ (.inr ⟨_, _, by rw [hG]; exact h1, hn, rfl, rfl⟩)
end Go.Proofs.Ytdpmfnndaaplkaa
