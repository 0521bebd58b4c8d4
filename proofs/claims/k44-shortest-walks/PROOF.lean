import PyProof.Rows.All
import Wide.All
import OpenK.AllK
import Wide.FinOn
import HandS.Conv
import HandS.Defaults
import HandS.ForMost
import HandS.Head0
import HandS.Head1
import HandS.Head2
import HandS.HeadEnd
import HandS.HeadHook1
import HandS.HeadHook2
import HandS.IsInst
import HandS.SortInts
import HandS.SortRule
import HandS.Style
import HandS.TupAny
import HandS.TupLe
import HandS.TupSets
import HandS.WideMore
import KE.GoesEnum
import KE.LtData
import PyProof.DictUpdate
import PyProof.WalkInts
import PySem.Challenge.RW_ringbeats_k44_whole_shortest_walks
set_option Elab.async false
set_option linter.all false
set_option maxRecDepth 100000
set_option maxHeartbeats 0
/-! The plain law, part 1: breadth first search over rows; no program in sight. -/
namespace RB
abbrev Wk := List Int
abbrev Bst := List (Int × Wk)
def rowAt (T : List (List Int)) (x : Int) : List Int := T.getD x.toNat []
def lastI (w : Wk) : Int := w.getLastD 0
def keys (b : Bst) : List Int := b.map (·.1)
def wks (b : Bst) : List Wk := b.map (·.2)
def code : Wk → Int
  | [] => 0
  | d :: r => d * 8 ^ r.length + code r
def sortW (ws : List Wk) : List Wk := ws.mergeSort (fun a b => decide (code a ≤ code b))
def vis (found : Bst) (r : Wk) (fr : Bst) (x : Int) : Bst := if x ∈ keys found ∨ x ∈ keys fr then fr else fr ++ [(x, r ++ [x])]
def visR (T : List (List Int)) (found : Bst) (fr : Bst) (r : Wk) : Bst := (rowAt T (lastI r)).foldl (vis found r) fr
def roundB (T : List (List Int)) (found : Bst) (ws : List Wk) : Bst := ws.foldl (visR T found) []
def lev (T : List (List Int)) (one : Int) : Nat → Bst × Bst
  | 0 => ([(one, [one])], [(one, [one])])
  | k + 1 => ((lev T one k).1 ++ roundB T (lev T one k).1 (sortW (wks (lev T one k).2)), roundB T (lev T one k).1 (sortW (wks (lev T one k).2)))

theorem code_snoc (x : Int) : ∀ r : Wk, code (r ++ [x]) = code r * 8 + x
  | [] => by simp [code]
  | d :: r => by
    show d * 8 ^ (r ++ [x]).length + code (r ++ [x]) = (d * 8 ^ r.length + code r) * 8 + x
    rw [code_snoc x r, List.length_append, List.length_singleton, Int.pow_succ, Int.add_mul, Int.mul_assoc]
    omega
theorem lastI_snoc (r : Wk) (x : Int) : lastI (r ++ [x]) = x := by
  unfold lastI
  rw [List.getLastD_eq_getLast?, List.getLast?_append]
  simp

theorem sortW_perm (ws : List Wk) : (sortW ws).Perm ws := List.mergeSort_perm _ _
theorem sortW_pw (ws : List Wk) : (sortW ws).Pairwise (fun a b => code a ≤ code b) := by
  have h := List.pairwise_mergeSort (le := fun a b : Wk => decide (code a ≤ code b)) (fun a b c h1 h2 => by simp at h1 h2 ⊢; omega) (fun a b => by simp; omega) ws
  exact h.imp fun h => by simpa using h
theorem sortW_nil : sortW [] = [] := by unfold sortW; simp

/-- a walk, grown at its end -/
inductive Walk (T : List (List Int)) (one : Int) : Int → Wk → Prop
  | start : Walk T one one [one]
  | step {y x : Int} {w : Wk} (h : Walk T one y w) (hx : x ∈ rowAt T y) : Walk T one x (w ++ [x])
theorem Walk.last {T : List (List Int)} {one x : Int} {w : Wk} (h : Walk T one x w) : lastI w = x := by
  cases h with
  | start => rfl
  | step h hx => exact lastI_snoc _ _
theorem Walk.len {T : List (List Int)} {one x : Int} {w : Wk} (h : Walk T one x w) : 1 ≤ w.length := by
  cases h with
  | start => exact Nat.le_refl _
  | step h hx => simp

section
variable {T : List (List Int)} {found : Bst}
/-- within a round: the rows done are done, of the row r the players seen -/
structure In (T : List (List Int)) (found : Bst) (done : List Wk) (r : Wk) (seen : List Int) (fr : Bst) : Prop where
  a : ∀ x w, (x, w) ∈ fr → x ∉ keys found ∧ ((∃ r0 ∈ done, x ∈ rowAt T (lastI r0) ∧ w = r0 ++ [x] ∧ ∀ r' ∈ done, x ∈ rowAt T (lastI r') → code r0 ≤ code r') ∨ (x ∈ seen ∧ w = r ++ [x] ∧ ∀ r' ∈ done, x ∉ rowAt T (lastI r')))
  b : ∀ r0 ∈ done, ∀ x ∈ rowAt T (lastI r0), x ∉ keys found → x ∈ keys fr
  c : ∀ x ∈ seen, x ∉ keys found → x ∈ keys fr
  d : (keys fr).Nodup
structure Out (T : List (List Int)) (found : Bst) (done : List Wk) (fr : Bst) : Prop where
  a : ∀ x w, (x, w) ∈ fr → x ∉ keys found ∧ ∃ r0 ∈ done, x ∈ rowAt T (lastI r0) ∧ w = r0 ++ [x] ∧ ∀ r' ∈ done, x ∈ rowAt T (lastI r') → code r0 ≤ code r'
  b : ∀ r0 ∈ done, ∀ x ∈ rowAt T (lastI r0), x ∉ keys found → x ∈ keys fr
  d : (keys fr).Nodup
theorem mem_keys {b : Bst} {x : Int} : x ∈ keys b ↔ ∃ w, (x, w) ∈ b := by
  unfold keys
  rw [List.mem_map]
  constructor
  · rintro ⟨⟨y, w⟩, h, rfl⟩
    exact ⟨w, h⟩
  · rintro ⟨w, h⟩
    exact ⟨(x, w), h, rfl⟩
theorem keys_append (a b : Bst) : keys (a ++ b) = keys a ++ keys b := List.map_append ..
theorem In.vis {done : List Wk} {r : Wk} {seen : List Int} {fr : Bst} {x : Int} (h : In T found done r seen fr) : In T found done r (seen ++ [x]) (vis found r fr x) := by
  unfold RB.vis
  by_cases hx : x ∈ keys found ∨ x ∈ keys fr
  · rw [if_pos hx]
    refine ⟨fun y w m => ?_, h.b, fun y m ny => ?_, h.d⟩
    · obtain ⟨n, q⟩ := h.a y w m
      refine ⟨n, q.imp id fun ⟨m, e, k⟩ => ⟨List.mem_append_left _ m, e, k⟩⟩
    · rcases List.mem_append.mp m with m | m
      · exact h.c y m ny
      · rw [List.mem_singleton] at m
        subst m
        exact hx.resolve_left ny
  · rw [if_neg hx]
    have n1 : x ∉ keys found := fun z => hx (.inl z)
    have n2 : x ∉ keys fr := fun z => hx (.inr z)
    refine ⟨fun y w m => ?_, fun r0 m0 y my ny => ?_, fun y m ny => ?_, ?_⟩
    · rcases List.mem_append.mp m with m | m
      · obtain ⟨n, q⟩ := h.a y w m
        exact ⟨n, q.imp id fun ⟨m, e, k⟩ => ⟨List.mem_append_left _ m, e, k⟩⟩
      · rw [List.mem_singleton] at m
        cases m
        exact ⟨n1, .inr ⟨List.mem_append_right _ (List.mem_singleton.mpr rfl), rfl, fun r' m' z => n2 (h.b r' m' x z n1)⟩⟩
    · rw [keys_append]
      exact List.mem_append_left _ (h.b r0 m0 y my ny)
    · rw [keys_append]
      rcases List.mem_append.mp m with m | m
      · exact List.mem_append_left _ (h.c y m ny)
      · rw [List.mem_singleton] at m
        subst m
        exact List.mem_append_right _ (List.mem_singleton.mpr rfl)
    · rw [keys_append]
      show (keys fr ++ [x]).Nodup
      rw [List.nodup_append]
      refine ⟨h.d, by simp, fun a ha b hb e => ?_⟩
      rw [List.mem_singleton] at hb
      subst e hb
      exact n2 ha
theorem In.fold {done : List Wk} {r : Wk} : ∀ (l seen : List Int) (fr : Bst), In T found done r seen fr → In T found done r (seen ++ l) (l.foldl (RB.vis found r) fr)
  | [], seen, fr, h => by rw [List.append_nil]; exact h
  | x :: l, seen, fr, h => by
    rw [List.foldl_cons, show seen ++ x :: l = (seen ++ [x]) ++ l by simp]
    exact In.fold l _ _ h.vis
theorem Out.turn {done : List Wk} {r : Wk} {fr : Bst} (h : Out T found done fr) (hr : ∀ r0 ∈ done, code r0 ≤ code r) : Out T found (done ++ [r]) (visR T found fr r) := by
  have i0 : In T found done r [] fr := ⟨fun x w m => let ⟨n, q⟩ := h.a x w m; ⟨n, .inl q⟩, h.b, fun x m => absurd m (by simp), h.d⟩
  have i := i0.fold (rowAt T (lastI r))
  rw [List.nil_append] at i
  refine ⟨fun x w m => ?_, fun r0 m0 x mx nx => ?_, i.d⟩
  · obtain ⟨n, q⟩ := i.a x w m
    refine ⟨n, ?_⟩
    rcases q with ⟨r0, m0, mx, e, k⟩ | ⟨mx, e, k⟩
    · refine ⟨r0, List.mem_append_left _ m0, mx, e, fun r' m' x' => ?_⟩
      rcases List.mem_append.mp m' with m' | m'
      · exact k r' m' x'
      · rw [List.mem_singleton] at m'
        subst m'
        exact hr r0 m0
    · refine ⟨r, List.mem_append_right _ (List.mem_singleton.mpr rfl), mx, e, fun r' m' x' => ?_⟩
      rcases List.mem_append.mp m' with m' | m'
      · exact absurd x' (k r' m')
      · rw [List.mem_singleton] at m'
        subst m'
        exact Int.le_refl _
  · rcases List.mem_append.mp m0 with m0 | m0
    · exact i.b r0 m0 x mx nx
    · rw [List.mem_singleton] at m0
      subst m0
      exact i.c x mx nx
theorem Out.fold : ∀ (l done : List Wk) (fr : Bst), (done ++ l).Pairwise (fun a b => code a ≤ code b) → Out T found done fr → Out T found (done ++ l) (l.foldl (visR T found) fr)
  | [], done, fr, _, h => by rw [List.append_nil]; exact h
  | r :: l, done, fr, hp, h => by
    have e : done ++ r :: l = (done ++ [r]) ++ l := by simp
    rw [List.foldl_cons, e]
    refine Out.fold l _ _ (e ▸ hp) (h.turn fun r0 m0 => ?_)
    exact (List.pairwise_append.mp hp).2.2 r0 m0 r (List.mem_cons_self ..)
theorem round_out {ws : List Wk} (hp : ws.Pairwise (fun a b => code a ≤ code b)) : Out T found ws (roundB T found ws) := by
  have h := Out.fold (T := T) (found := found) ws [] [] (by simpa using hp) ⟨fun x w m => absurd m (by simp), fun r m => absurd m (by simp), by simp [keys]⟩
  rw [List.nil_append] at h
  exact h
end

structure Bfs (T : List (List Int)) (one : Int) (k : Nat) (p : Bst × Bst) : Prop where
  nd : (keys p.1).Nodup
  wk : ∀ x w, (x, w) ∈ p.1 → Walk T one x w ∧ w.length ≤ k + 1
  fr : ∀ x w, (x, w) ∈ p.2 ↔ (x, w) ∈ p.1 ∧ w.length = k + 1
  opt : ∀ x v, Walk T one x v → v.length ≤ k + 1 → ∃ w, (x, w) ∈ p.1 ∧ (w.length < v.length ∨ (w.length = v.length ∧ code w ≤ code v))

theorem mem_wks {b : Bst} {w : Wk} : w ∈ wks b ↔ ∃ x, (x, w) ∈ b := by
  unfold wks
  rw [List.mem_map]
  constructor
  · rintro ⟨⟨y, w⟩, h, rfl⟩
    exact ⟨y, h⟩
  · rintro ⟨x, h⟩
    exact ⟨(x, w), h, rfl⟩
theorem bfs (T : List (List Int)) (one : Int) : ∀ k, Bfs T one k (lev T one k)
  | 0 => by
    refine ⟨by simp [lev, keys], fun x w m => ?_, fun x w => ?_, fun x v h hl => ?_⟩
    · have m : (x, w) ∈ [(one, [one])] := m
      rw [List.mem_singleton] at m
      cases m
      exact ⟨.start, by simp⟩
    · show (x, w) ∈ [(one, [one])] ↔ (x, w) ∈ [(one, [one])] ∧ w.length = 0 + 1
      constructor
      · intro m
        refine ⟨m, ?_⟩
        rw [List.mem_singleton] at m
        cases m
        rfl
      · exact fun m => m.1
    · cases h with
      | start => exact ⟨[one], List.mem_singleton.mpr rfl, .inr ⟨rfl, Int.le_refl _⟩⟩
      | step h hx =>
        rw [List.length_append, List.length_singleton] at hl
        have := h.len
        omega
  | k + 1 => by
    have ih := bfs T one k
    have hw : ∀ w, w ∈ sortW (wks (lev T one k).2) ↔ ∃ x, (x, w) ∈ (lev T one k).2 := fun w => (sortW_perm _).mem_iff.trans mem_wks
    have ho := round_out (T := T) (found := (lev T one k).1) (sortW_pw (wks (lev T one k).2))
    generalize hfr : roundB T (lev T one k).1 (sortW (wks (lev T one k).2)) = fr at ho
    have e : lev T one (k + 1) = ((lev T one k).1 ++ fr, fr) := by rw [← hfr]; rfl
    rw [e]
    have new : ∀ x w, (x, w) ∈ fr → Walk T one x w ∧ w.length = k + 2 := fun x w m => by
      obtain ⟨n, r, mr, mx, rfl, _⟩ := ho.a x w m
      obtain ⟨y, my⟩ := (hw r).mp mr
      obtain ⟨my, hl⟩ := (ih.fr y r).mp my
      have wy := (ih.wk y r my).1
      rw [wy.last] at mx
      exact ⟨.step wy mx, by rw [List.length_append, List.length_singleton, hl]⟩
    refine ⟨?_, fun x w m => ?_, fun x w => ?_, fun x v h hl => ?_⟩
    · show (keys ((lev T one k).1 ++ fr)).Nodup
      rw [keys_append, List.nodup_append]
      refine ⟨ih.nd, ho.d, fun a ha b hb e => ?_⟩
      subst e
      obtain ⟨w, m⟩ := mem_keys.mp hb
      exact (ho.a a w m).1 ha
    · rcases List.mem_append.mp m with m | m
      · exact ⟨(ih.wk x w m).1, Nat.le_succ_of_le (ih.wk x w m).2⟩
      · exact ⟨(new x w m).1, Nat.le_of_eq (new x w m).2⟩
    · constructor
      · exact fun m => ⟨List.mem_append_right _ m, (new x w m).2⟩
      · rintro ⟨m, hl⟩
        rcases List.mem_append.mp m with m | m
        · have := (ih.wk x w m).2
          omega
        · exact m
    · by_cases hl' : v.length ≤ k + 1
      · obtain ⟨w, m, q⟩ := ih.opt x v h hl'
        exact ⟨w, List.mem_append_left _ m, q⟩
      · cases h with
        | start => simp at hl'
        | @step y _ v' h hx =>
          rw [List.length_append, List.length_singleton] at hl hl'
          have hv : v'.length = k + 1 := by omega
          by_cases nx : x ∈ keys (lev T one k).1
          · obtain ⟨w, m⟩ := mem_keys.mp nx
            refine ⟨w, List.mem_append_left _ m, .inl ?_⟩
            have := (ih.wk x w m).2
            rw [List.length_append, List.length_singleton]
            omega
          · obtain ⟨w', m', q⟩ := ih.opt y v' h (by omega)
            have wy := ih.wk y w' m'
            have le : w'.length = k + 1 := by
              rcases Nat.lt_or_ge w'.length (k + 1) with c | c
              · obtain ⟨w2, m2, _⟩ := ih.opt x (w' ++ [x]) (.step wy.1 hx) (by rw [List.length_append, List.length_singleton]; omega)
                exact absurd (mem_keys.mpr ⟨w2, m2⟩) nx
              · have := wy.2
                omega
            have mf : (y, w') ∈ (lev T one k).2 := (ih.fr y w').mpr ⟨m', le⟩
            have ms := (hw w').mpr ⟨y, mf⟩
            have cx : x ∈ rowAt T (lastI w') := by rw [wy.1.last]; exact hx
            obtain ⟨w, m⟩ := mem_keys.mp (ho.b w' ms x cx nx)
            obtain ⟨_, r, mr, mx, rfl, best⟩ := ho.a x w m
            refine ⟨r ++ [x], List.mem_append_right _ m, .inr ⟨?_, ?_⟩⟩
            · rw [(new x _ m).2, List.length_append, List.length_singleton, hv]
            · have c1 := best w' ms cx
              have c2 : code w' ≤ code v' := by
                rcases q with q | q
                · omega
                · exact q.2
              rw [code_snoc, code_snoc]
              omega

/-! ### the search ends -/
theorem roundB_nil {T : List (List Int)} {found : Bst} : roundB T found [] = [] := rfl
theorem lev_stop {T : List (List Int)} {one : Int} {k : Nat} (h : (lev T one k).2 = []) : lev T one (k + 1) = ((lev T one k).1, []) := by
  show ((lev T one k).1 ++ roundB T (lev T one k).1 (sortW (wks (lev T one k).2)), roundB T (lev T one k).1 (sortW (wks (lev T one k).2))) = _
  rw [h]
  have e : sortW (wks []) = [] := sortW_nil
  rw [e, roundB_nil, List.append_nil]
theorem lev_stops {T : List (List Int)} {one : Int} {k : Nat} (h : (lev T one k).2 = []) : ∀ j, lev T one (k + j) = ((lev T one k).1, [])
  | 0 => by rw [Nat.add_zero, ← h]
  | j + 1 => by
    have ih := lev_stops h j
    have q := lev_stop (T := T) (one := one) (k := k + j) (by rw [ih])
    rw [show k + (j + 1) = (k + j) + 1 by omega, q, ih]
theorem lev_grows {T : List (List Int)} {one : Int} : ∀ {k : Nat}, (lev T one k).2 ≠ [] → k + 1 ≤ (lev T one k).1.length
  | 0, _ => Nat.le_refl _
  | k + 1, h => by
    have h' : (lev T one k).2 ≠ [] := fun e => h (by rw [lev_stop e])
    have ih := lev_grows h'
    have e : (lev T one (k + 1)).1 = (lev T one k).1 ++ (lev T one (k + 1)).2 := rfl
    rw [e, List.length_append]
    have : 1 ≤ (lev T one (k + 1)).2.length := by
      cases q : (lev T one (k + 1)).2 with
      | nil => exact absurd q h
      | cons a r => simp
    omega

/-- a tournament, as rows -/
structure Tour (T : List (List Int)) : Prop where
  pos : 1 ≤ T.length
  most : T.length ≤ 6
  rng : ∀ (i : Nat) row, T[i]? = some row → ∀ x ∈ row, 0 ≤ x ∧ x < (T.length : Int)
  asc : ∀ (i : Nat) row, T[i]? = some row → row.Pairwise (· < ·)
  irr : ∀ (i : Nat) row, T[i]? = some row → (i : Int) ∉ row
  one : ∀ (i j : Nat) r s, T[i]? = some r → T[j]? = some s → i ≠ j → ((j : Int) ∈ r ↔ (i : Int) ∉ s)
def Pl (T : List (List Int)) (x : Int) : Prop := 0 ≤ x ∧ x < (T.length : Int)
theorem rowAt_get {T : List (List Int)} {i : Nat} {r : List Int} (h : T[i]? = some r) : rowAt T (i : Int) = r := by
  unfold rowAt
  rw [Int.toNat_natCast, List.getD_eq_getElem?_getD, h]
  rfl
theorem Pl.row {T : List (List Int)} {x : Int} (h : Pl T x) : ∃ i : Nat, x = (i : Int) ∧ i < T.length ∧ T[i]? = some (rowAt T x) := by
  obtain ⟨h0, h1⟩ := h
  refine ⟨x.toNat, by omega, by omega, ?_⟩
  have hl : x.toNat < T.length := by omega
  unfold rowAt
  rw [List.getD_eq_getElem?_getD, List.getElem?_eq_getElem hl]
  rfl
theorem Tour.beaten {T : List (List Int)} (h : Tour T) {x y : Int} (hy : y ∈ rowAt T x) : Pl T y := by
  unfold rowAt at hy
  rw [List.getD_eq_getElem?_getD] at hy
  cases q : T[x.toNat]? with
  | none =>
    rw [q] at hy
    exact absurd hy (by simp)
  | some r =>
    rw [q] at hy
    exact h.rng _ r q y hy
theorem Walk.pl {T : List (List Int)} (h : Tour T) {one x : Int} {w : Wk} (h1 : Pl T one) (hw : Walk T one x w) : (∀ y ∈ w, Pl T y) ∧ Pl T x := by
  induction hw with
  | start => exact ⟨fun y m => by rw [List.mem_singleton] at m; subst m; exact h1, h1⟩
  | step hw hx ih =>
    have hp := h.beaten hx
    refine ⟨fun y m => ?_, hp⟩
    rcases List.mem_append.mp m with m | m
    · exact ih.1 y m
    · rw [List.mem_singleton] at m
      subst m
      exact hp
theorem lev_end {T : List (List Int)} (h : Tour T) {one : Int} (h1 : Pl T one) : (lev T one T.length).2 = [] := by
  cases q : (lev T one T.length).2 with
  | nil => rfl
  | cons a r =>
    have g := lev_grows (T := T) (one := one) (k := T.length) (by rw [q]; simp)
    have B := bfs T one T.length
    have sub : keys (lev T one T.length).1 ⊆ (List.range T.length).map (fun i : Nat => (i : Int)) := fun x m => by
      obtain ⟨w, m⟩ := mem_keys.mp m
      obtain ⟨h0, h2⟩ := ((B.wk x w m).1.pl h h1).2
      exact List.mem_map.mpr ⟨x.toNat, List.mem_range.mpr (by omega), by omega⟩
    have l := B.nd.length_le_of_subset sub
    simp only [keys, List.length_map, List.length_range] at l
    omega
/-- what the search has found -/
def best (T : List (List Int)) (one : Int) : Bst := (lev T one T.length).1
theorem best_walk {T : List (List Int)} {one x : Int} {w : Wk} (m : (x, w) ∈ best T one) : Walk T one x w ∧ w.length ≤ T.length + 1 := (bfs T one T.length).wk x w m
theorem best_nd {T : List (List Int)} {one : Int} : (keys (best T one)).Nodup := (bfs T one T.length).nd
theorem best_opt {T : List (List Int)} (h : Tour T) {one : Int} (h1 : Pl T one) {x : Int} {v : Wk} (hv : Walk T one x v) : ∃ w, (x, w) ∈ best T one ∧ (w.length < v.length ∨ (w.length = v.length ∧ code w ≤ code v)) := by
  obtain ⟨w, m, q⟩ := (bfs T one (T.length + v.length)).opt x v hv (by omega)
  rw [lev_stops (lev_end h h1)] at m
  exact ⟨w, m, q⟩
/-- the law's and the program's loops both go on along lev -/
theorem lev_at {T : List (List Int)} (h : Tour T) {one : Int} (h1 : Pl T one) {k : Nat} (e : (lev T one k).2 = []) : (lev T one k).1 = best T one := by
  unfold best
  rcases Nat.le_total k T.length with c | c
  · rw [show T.length = k + (T.length - k) by omega, lev_stops e]
  · rw [show k = T.length + (k - T.length) by omega, lev_stops (lev_end h h1)]
theorem lev_some {T : List (List Int)} (h : Tour T) {one : Int} (h1 : Pl T one) {k : Nat} (e : (lev T one k).2 ≠ []) : k < T.length := by
  rcases Nat.lt_or_ge k T.length with c | c
  · exact c
  · refine absurd ?_ e
    rw [show k = T.length + (k - T.length) by omega, lev_stops (lev_end h h1)]
end RB
/-! The plain law, part 2: tournaments by their edges; signed orders. -/
namespace RB
def rowOf (E : List (Int × Int)) (x : Int) : List Int := (E.filter fun e => decide (e.1 = x)).map (·.2)
def sortI (l : List Int) : List Int := l.mergeSort (fun a b => decide (a ≤ b))
def byE (n : Nat) (E : List (Int × Int)) : List (List Int) := (List.range n).map fun p : Nat => sortI (rowOf E (p : Int))
theorem sortI_perm (l : List Int) : (sortI l).Perm l := List.mergeSort_perm _ _
theorem sortI_pw (l : List Int) : (sortI l).Pairwise (· ≤ ·) := by
  have h := List.pairwise_mergeSort (le := fun a b : Int => decide (a ≤ b)) (fun a b c h1 h2 => by simp at h1 h2 ⊢; omega) (fun a b => by simp; omega) l
  exact h.imp fun h => by simpa using h
theorem sortI_of {l l' : List Int} (p : l'.Perm l) (h : l'.Pairwise (· ≤ ·)) : l' = sortI l :=
  List.Perm.eq_of_pairwise (le := fun a b : Int => a ≤ b) (fun a b _ _ h1 h2 => Int.le_antisymm h1 h2) h (sortI_pw l) (p.trans (sortI_perm l).symm)
theorem mem_rowOf {E : List (Int × Int)} {x y : Int} : y ∈ rowOf E x ↔ (x, y) ∈ E := by
  unfold rowOf
  rw [List.mem_map]
  constructor
  · rintro ⟨⟨a, b⟩, h, rfl⟩
    rw [List.mem_filter] at h
    have e : a = x := of_decide_eq_true h.2
    subst e
    exact h.1
  · intro h
    exact ⟨(x, y), List.mem_filter.mpr ⟨h, decide_eq_true rfl⟩, rfl⟩
theorem rowOf_snoc (E : List (Int × Int)) (a b x : Int) : rowOf (E ++ [(a, b)]) x = if a = x then rowOf E x ++ [b] else rowOf E x := by
  unfold rowOf
  rw [List.filter_append, List.map_append]
  by_cases h : a = x
  · rw [if_pos h, List.filter_cons, if_pos (by simp [h])]
    rfl
  · rw [if_neg h, List.filter_cons, if_neg (by simp [h])]
    simp
theorem rowOf_nodup {E : List (Int × Int)} (h : E.Nodup) (x : Int) : (rowOf E x).Nodup := by
  unfold rowOf
  unfold List.Nodup
  rw [List.pairwise_map]
  refine List.Pairwise.imp_of_mem (fun {p q} hp hq ne e => ?_) (h.sublist List.filter_sublist)
  have e1 : p.1 = x := of_decide_eq_true (List.mem_filter.mp hp).2
  have e2 : q.1 = x := of_decide_eq_true (List.mem_filter.mp hq).2
  exact ne (Prod.ext (e1.trans e2.symm) e)
theorem byE_len (n : Nat) (E : List (Int × Int)) : (byE n E).length = n := by simp [byE]
theorem byE_get {n : Nat} {E : List (Int × Int)} {i : Nat} (h : i < n) : (byE n E)[i]? = some (sortI (rowOf E (i : Int))) := by
  unfold byE
  rw [List.getElem?_map, List.getElem?_range h]
  rfl
theorem byE_row {n : Nat} {E : List (Int × Int)} {x : Int} (h0 : 0 ≤ x) (h1 : x < (n : Int)) : rowAt (byE n E) x = sortI (rowOf E x) := by
  have e : x = ((x.toNat : Nat) : Int) := by omega
  have g := byE_get (E := E) (n := n) (i := x.toNat) (by omega)
  rw [← e] at g
  rw [e, rowAt_get (by rw [g]), ← e]

/-- the pairs of places i < j < n, as the loops go -/
def prow (n i t : Nat) : List (Nat × Nat) := (List.range t).map fun j => (i, i + 1 + j)
def prows (n i : Nat) : List (Nat × Nat) := (List.range i).flatMap fun k => prow n k (n - (k + 1))
def pairs (n : Nat) : List (Nat × Nat) := prows n n
theorem prow_succ (n i t : Nat) : prow n i (t + 1) = prow n i t ++ [(i, i + 1 + t)] := by
  unfold prow
  rw [List.range_succ, List.map_append]
  rfl
theorem prows_succ (n i : Nat) : prows n (i + 1) = prows n i ++ prow n i (n - (i + 1)) := by
  unfold prows
  rw [List.range_succ, List.flatMap_append]
  simp
theorem mem_pairs {n i j : Nat} : (i, j) ∈ pairs n ↔ i < j ∧ j < n := by
  unfold pairs prows prow
  simp only [List.mem_flatMap, List.mem_map, List.mem_range, Prod.mk.injEq]
  constructor
  · rintro ⟨k, hk, t, ht, rfl, rfl⟩
    omega
  · rintro ⟨h1, h2⟩
    exact ⟨i, by omega, j - (i + 1), by omega, rfl, by omega⟩
theorem prow_nodup (n i t : Nat) : (prow n i t).Nodup := by
  unfold prow
  unfold List.Nodup
  rw [List.pairwise_map]
  refine List.Pairwise.imp (fun {a b} h e => ?_) (List.nodup_range (n := t))
  have e2 : i + 1 + a = i + 1 + b := congrArg Prod.snd e
  exact h (by omega)
theorem prows_nodup (n : Nat) : ∀ i, (prows n i).Nodup
  | 0 => by simp [prows]
  | i + 1 => by
    rw [prows_succ, List.nodup_append]
    refine ⟨prows_nodup n i, prow_nodup n i _, fun a ha b hb e => ?_⟩
    subst e
    unfold prows prow at *
    simp only [List.mem_flatMap, List.mem_map, List.mem_range] at ha hb
    obtain ⟨k, hk, t, ht, e1⟩ := ha
    obtain ⟨u, hu, e2⟩ := hb
    rw [← e1] at e2
    have : i = k := congrArg Prod.fst e2
    omega
theorem pairs_nodup (n : Nat) : (pairs n).Nodup := prows_nodup n n

/-- an edge, put the lesser place first -/
def norm (pos : Int → Nat) (e : Int × Int) : Nat × Nat := (min (pos e.1) (pos e.2), max (pos e.1) (pos e.2))
structure Edges (n : Nat) (pos : Int → Nat) (E : List (Int × Int)) : Prop where
  inn : ∀ e ∈ E, (0 ≤ e.1 ∧ e.1 < (n : Int)) ∧ (0 ≤ e.2 ∧ e.2 < (n : Int))
  all : E.map (norm pos) = pairs n
theorem nodup_of_map {α β : Type} {f : α → β} : ∀ {l : List α}, (l.map f).Nodup → l.Nodup
  | [], _ => List.nodup_nil
  | a :: l, h => by
    rw [List.map_cons, List.nodup_cons] at h
    exact List.nodup_cons.mpr ⟨fun m => h.1 (List.mem_map.mpr ⟨a, m, rfl⟩), nodup_of_map h.2⟩
theorem inj_of_map {α β : Type} {f : α → β} : ∀ {l : List α}, (l.map f).Nodup → ∀ a ∈ l, ∀ b ∈ l, f a = f b → a = b
  | [], _, a, m, _, _, _ => absurd m (by simp)
  | c :: l, h, a, ma, b, mb, e => by
    rw [List.map_cons, List.nodup_cons] at h
    rcases List.mem_cons.mp ma with ea | ma <;> rcases List.mem_cons.mp mb with eb | mb
    · rw [ea, eb]
    · exact absurd (show f c ∈ l.map f from List.mem_map.mpr ⟨b, mb, by rw [← e, ea]⟩) h.1
    · exact absurd (show f c ∈ l.map f from List.mem_map.mpr ⟨a, ma, by rw [e, eb]⟩) h.1
    · exact inj_of_map h.2 a ma b mb e
theorem tour_byE {n : Nat} {pos : Int → Nat} {E : List (Int × Int)} (h1 : 1 ≤ n) (h6 : n ≤ 6) (hp : ∀ x : Int, 0 ≤ x → x < n → pos x < n)
    (hi : ∀ x y : Int, 0 ≤ x → x < n → 0 ≤ y → y < n → pos x = pos y → x = y) (h : Edges n pos E) : Tour (byE n E) := by
  have hnd : (E.map (norm pos)).Nodup := by rw [h.all]; exact pairs_nodup n
  have row : ∀ {i : Nat} {r : List Int}, (byE n E)[i]? = some r → i < n ∧ r = sortI (rowOf E (i : Int)) := fun {i r} e => by
    have hl := (List.getElem?_eq_some_iff.mp e).1
    rw [byE_len] at hl
    rw [byE_get hl] at e
    exact ⟨hl, (Option.some.inj e).symm⟩
  have mem : ∀ {i : Nat} {r : List Int} {x : Int}, (byE n E)[i]? = some r → (x ∈ r ↔ ((i : Int), x) ∈ E) := fun {i r x} e => by
    rw [(row e).2, (sortI_perm _).mem_iff, mem_rowOf]
  have noself : ∀ x : Int, (x, x) ∉ E := fun x m => by
    have z : norm pos (x, x) ∈ pairs n := by rw [← h.all]; exact List.mem_map.mpr ⟨_, m, rfl⟩
    have z := mem_pairs.mp z
    dsimp only at z
    omega
  refine ⟨by rw [byE_len]; exact h1, by rw [byE_len]; exact h6, fun i r e x m => ?_, fun i r e => ?_, fun i r e m => ?_, fun i j r s e1 e2 ne => ?_⟩
  · rw [byE_len]
    exact (h.inn _ ((mem e).mp m)).2
  · have hs := sortI_pw (rowOf E (i : Int))
    have hn : (sortI (rowOf E (i : Int))).Nodup := (sortI_perm _).nodup_iff.mpr (rowOf_nodup (nodup_of_map hnd) _)
    rw [(row e).2]
    exact (hs.and hn).imp fun {a b} ⟨x, y⟩ => by have : a ≠ b := y; omega
  · exact noself _ ((mem e).mp m)
  · obtain ⟨li, _⟩ := row e1
    obtain ⟨lj, _⟩ := row e2
    rw [mem e1, mem e2]
    constructor
    · intro m m'
      have q := inj_of_map hnd _ m _ m' (by simp [norm, Nat.min_comm, Nat.max_comm])
      have : (i : Int) = (j : Int) := congrArg Prod.fst q
      omega
    · intro nm
      have p1 := hp (i : Int) (by omega) (by omega)
      have p2 := hp (j : Int) (by omega) (by omega)
      have pne : pos (i : Int) ≠ pos (j : Int) := fun z => ne (by have := hi _ _ (by omega) (by omega) (by omega) (by omega) z; omega)
      have mp : (min (pos (i : Int)) (pos (j : Int)), max (pos (i : Int)) (pos (j : Int))) ∈ E.map (norm pos) := by
        rw [h.all, mem_pairs]
        omega
      obtain ⟨⟨a, b⟩, me, en⟩ := List.mem_map.mp mp
      have q1 : min (pos a) (pos b) = min (pos (i : Int)) (pos (j : Int)) := congrArg Prod.fst en
      have q2 : max (pos a) (pos b) = max (pos (i : Int)) (pos (j : Int)) := congrArg Prod.snd en
      obtain ⟨⟨a0, a1⟩, b0, b1⟩ := h.inn _ me
      have c : (pos a = pos (i : Int) ∧ pos b = pos (j : Int)) ∨ (pos a = pos (j : Int) ∧ pos b = pos (i : Int)) := by omega
      rcases c with ⟨c1, c2⟩ | ⟨c1, c2⟩
      · have ea := hi _ _ a0 a1 (by omega) (by omega) c1
        have eb := hi _ _ b0 b1 (by omega) (by omega) c2
        subst ea eb
        exact me
      · have ea := hi _ _ a0 a1 (by omega) (by omega) c1
        have eb := hi _ _ b0 b1 (by omega) (by omega) c2
        subst ea eb
        exact absurd me nm

/-! ### signed orders -/
abbrev Ord := List (Int × Bool)
def plr (o : Ord) (i : Nat) : Int := (o.getD i (0, true)).1
def sgn (o : Ord) (i : Nat) : Bool := (o.getD i (0, true)).2
def edge (o : Ord) (ij : Nat × Nat) : Int × Int := if sgn o ij.1 = sgn o ij.2 then (plr o ij.1, plr o ij.2) else (plr o ij.2, plr o ij.1)
def edges (o : Ord) : List (Int × Int) := (pairs o.length).map (edge o)
/-- all players once -/
def Good (o : Ord) : Prop := (o.map (·.1)).Perm ((List.range o.length).map fun i : Nat => (i : Int))
theorem plr_get {o : Ord} {i : Nat} (h : i < o.length) : (o.map (·.1))[i]? = some (plr o i) := by
  unfold plr
  rw [List.getElem?_map, List.getD_eq_getElem?_getD, List.getElem?_eq_getElem h]
  rfl
theorem Good.nd {o : Ord} (h : Good o) : (o.map (·.1)).Nodup := by
  refine h.nodup_iff.mpr ?_
  unfold List.Nodup
  rw [List.pairwise_map]
  exact List.Pairwise.imp (fun {a b} ne e => ne (by omega)) (List.nodup_range (n := o.length))
theorem Good.inn {o : Ord} (h : Good o) {i : Nat} (hi : i < o.length) : 0 ≤ plr o i ∧ plr o i < (o.length : Int) := by
  have m : plr o i ∈ o.map (·.1) := List.mem_of_getElem? (plr_get hi)
  rw [h.mem_iff, List.mem_map] at m
  obtain ⟨k, hk, e⟩ := m
  rw [List.mem_range] at hk
  omega
theorem Good.has {o : Ord} (h : Good o) {x : Int} (h0 : 0 ≤ x) (h1 : x < (o.length : Int)) : ∃ i, i < o.length ∧ plr o i = x := by
  have m : x ∈ o.map (·.1) := by
    rw [h.mem_iff, List.mem_map]
    exact ⟨x.toNat, List.mem_range.mpr (by omega), by omega⟩
  obtain ⟨i, hi⟩ := List.getElem?_of_mem m
  have hl := (List.getElem?_eq_some_iff.mp hi).1
  rw [List.length_map] at hl
  rw [plr_get hl] at hi
  exact ⟨i, hl, Option.some.inj hi⟩
theorem Good.inj {o : Ord} (h : Good o) {i j : Nat} (hi : i < o.length) (hj : j < o.length) (e : plr o i = plr o j) : i = j := by
  have e1 := plr_get hi
  have e2 := plr_get hj
  rw [e, ← e2] at e1
  exact (List.getElem?_inj (by simpa using hi) h.nd).mp e1
def posIn (o : Ord) (x : Int) : Nat := (o.map (·.1)).idxOf x
theorem Good.posIn {o : Ord} (h : Good o) {i : Nat} (hi : i < o.length) : posIn o (plr o i) = i := by
  have m : plr o i ∈ o.map (·.1) := List.mem_of_getElem? (plr_get hi)
  have hl : RB.posIn o (plr o i) < (o.map (·.1)).length := List.idxOf_lt_length_of_mem m
  have e : (o.map (·.1))[RB.posIn o (plr o i)]? = some (plr o i) := by
    rw [List.getElem?_eq_getElem hl]
    exact congrArg some (List.getElem_idxOf hl)
  have q := plr_get hi
  rw [← e] at q
  exact ((List.getElem?_inj (by simpa using hi) h.nd).mp q).symm
theorem edges_ok {o : Ord} (h : Good o) : Edges o.length (posIn o) (edges o) := by
  refine ⟨fun e m => ?_, ?_⟩
  · obtain ⟨⟨i, j⟩, mp, rfl⟩ := List.mem_map.mp m
    obtain ⟨h1, h2⟩ := mem_pairs.mp mp
    have p1 := h.inn (i := i) (by omega)
    have p2 := h.inn (i := j) (by omega)
    unfold edge
    split
    · exact ⟨p1, p2⟩
    · exact ⟨p2, p1⟩
  · unfold edges
    rw [List.map_map]
    have e : ∀ p ∈ pairs o.length, (norm (posIn o) ∘ edge o) p = p := by
      rintro ⟨i, j⟩ mp
      obtain ⟨h1, h2⟩ := mem_pairs.mp mp
      have q1 := h.posIn (i := i) (by omega)
      have q2 := h.posIn (i := j) (by omega)
      show norm (posIn o) (edge o (i, j)) = (i, j)
      unfold edge norm
      split
      · show (min (posIn o (plr o i)) (posIn o (plr o j)), max (posIn o (plr o i)) (posIn o (plr o j))) = (i, j)
        rw [q1, q2, Nat.min_eq_left (by omega), Nat.max_eq_right (by omega)]
      · show (min (posIn o (plr o j)) (posIn o (plr o i)), max (posIn o (plr o j)) (posIn o (plr o i))) = (i, j)
        rw [q1, q2, Nat.min_eq_right (by omega), Nat.max_eq_left (by omega)]
    rw [List.map_congr_left e, List.map_id']
theorem tour_edges {o : Ord} (h : Good o) (h1 : 1 ≤ o.length) (h6 : o.length ≤ 6) : Tour (byE o.length (edges o)) := by
  refine tour_byE h1 h6 (fun x x0 x1 => ?_) (fun x y x0 x1 y0 y1 e => ?_) (edges_ok h)
  · obtain ⟨i, hi, rfl⟩ := h.has x0 x1
    rw [h.posIn hi]
    exact hi
  · obtain ⟨i, hi, rfl⟩ := h.has x0 x1
    obtain ⟨j, hj, rfl⟩ := h.has y0 y1
    rw [h.posIn hi, h.posIn hj] at e
    rw [e]

/-! ### a circular tournament that has a triangle: any walk has at most four players -/
/-- who beats whom, by places -/
def pb (s : List Bool) (i j : Nat) : Bool := if i < j then s.getD i true == s.getD j true else if j < i then !(s.getD i true == s.getD j true) else false
def tri (n : Nat) (s : List Bool) : Bool := (List.range n).any fun i => (List.range n).any fun j => pb s i j && ((List.range n).any fun k => pb s j k && pb s k i)
def near (n : Nat) (s : List Bool) (i j : Nat) : Bool := (i == j) || pb s i j || ((List.range n).any fun k => pb s i k && (pb s k j || ((List.range n).any fun l => pb s k l && pb s l j)))
def allB : Nat → List (List Bool)
  | 0 => [[]]
  | n + 1 => (allB n).flatMap fun s => [true :: s, false :: s]
theorem mem_allB : ∀ s : List Bool, s ∈ allB s.length
  | [] => by simp [allB]
  | b :: s => by
    show b :: s ∈ (allB s.length).flatMap fun s => [true :: s, false :: s]
    rw [List.mem_flatMap]
    exact ⟨s, mem_allB s, by cases b <;> simp⟩
theorem all_near : ((List.range 7).all fun n => (allB n).all fun s => !(tri n s) || ((List.range n).all fun i => (List.range n).all fun j => near n s i j)) = true := by decide +kernel
theorem near_all {n : Nat} {s : List Bool} (hs : s.length = n) (hn : n ≤ 6) (ht : tri n s = true) {i j : Nat} (hi : i < n) (hj : j < n) : near n s i j = true := by
  have h := all_near
  rw [List.all_eq_true] at h
  have h := h n (List.mem_range.mpr (by omega))
  rw [List.all_eq_true] at h
  have h := h s (hs ▸ mem_allB s)
  rw [ht] at h
  simp only [Bool.not_true, Bool.false_or, List.all_eq_true] at h
  exact h i (List.mem_range.mpr hi) j (List.mem_range.mpr hj)
def sgs (o : Ord) : List Bool := o.map (·.2)
theorem sgs_at {o : Ord} {i : Nat} (h : i < o.length) : (sgs o).getD i true = sgn o i := by
  unfold sgs sgn
  rw [List.getD_eq_getElem?_getD, List.getElem?_map, List.getD_eq_getElem?_getD, List.getElem?_eq_getElem h]
  rfl
theorem edge_row {o : Ord} (h : Good o) {i j : Nat} (hi : i < o.length) (hj : j < o.length) (hb : pb (sgs o) i j = true) : plr o j ∈ rowAt (byE o.length (edges o)) (plr o i) := by
  have p := h.inn hi
  rw [byE_row p.1 p.2, (sortI_perm _).mem_iff, mem_rowOf]
  unfold pb at hb
  rw [sgs_at hi, sgs_at hj] at hb
  unfold edges
  rw [List.mem_map]
  by_cases c : i < j
  · rw [if_pos c] at hb
    have e : sgn o i = sgn o j := by simpa using hb
    exact ⟨(i, j), mem_pairs.mpr ⟨c, hj⟩, by unfold edge; rw [if_pos e]⟩
  · rw [if_neg c] at hb
    by_cases c' : j < i
    · rw [if_pos c'] at hb
      have e : ¬ sgn o j = sgn o i := fun z => by rw [z] at hb; simp at hb
      exact ⟨(j, i), mem_pairs.mpr ⟨c', hi⟩, by unfold edge; rw [if_neg e]⟩
    · rw [if_neg c'] at hb
      cases hb
theorem row_edge {o : Ord} (h : Good o) (h1 : 1 ≤ o.length) (h6 : o.length ≤ 6) {i j : Nat} (hi : i < o.length) (hj : j < o.length) (hm : plr o j ∈ rowAt (byE o.length (edges o)) (plr o i)) : pb (sgs o) i j = true := by
  have T := tour_edges h h1 h6
  have pi := h.inn hi
  have pj := h.inn hj
  obtain ⟨a, ea, la, ra⟩ := Pl.row (T := byE o.length (edges o)) (x := plr o i) ⟨pi.1, by rw [byE_len]; exact pi.2⟩
  obtain ⟨b, eb, lb, rb⟩ := Pl.row (T := byE o.length (edges o)) (x := plr o j) ⟨pj.1, by rw [byE_len]; exact pj.2⟩
  by_cases e : i = j
  · subst e
    have z := T.irr a _ ra
    rw [← ea] at z
    exact absurd hm z
  · have ne : a ≠ b := fun z => e (h.inj hi hj (by rw [ea, eb, z]))
    cases q : pb (sgs o) i j with
    | true => rfl
    | false =>
      have q' : pb (sgs o) j i = true := by
        unfold pb at q ⊢
        rw [sgs_at hi, sgs_at hj] at *
        by_cases c : i < j
        · rw [if_pos c] at q
          rw [if_neg (by omega), if_pos c]
          cases u : sgn o i <;> cases v : sgn o j <;> rw [u, v] at q <;> first | rfl | cases q
        · rw [if_neg c, if_pos (by omega)] at q
          rw [if_pos (by omega)]
          cases u : sgn o i <;> cases v : sgn o j <;> rw [u, v] at q <;> first | rfl | cases q
      have m' := edge_row h hj hi q'
      have z := (T.one a b _ _ ra rb ne).mp (by rw [← eb]; exact hm)
      rw [← ea] at z
      exact absurd m' z
/-- the point of the document -/
theorem ring_near {o : Ord} (h : Good o) (h1 : 1 ≤ o.length) (h6 : o.length ≤ 6) {x y z : Int} (px : Pl (byE o.length (edges o)) x)
    (xy : y ∈ rowAt (byE o.length (edges o)) x) (yz : z ∈ rowAt (byE o.length (edges o)) y) (zx : x ∈ rowAt (byE o.length (edges o)) z)
    {a b : Int} (pa : Pl (byE o.length (edges o)) a) (pb' : Pl (byE o.length (edges o)) b) : ∃ v, Walk (byE o.length (edges o)) a b v ∧ v.length ≤ 4 := by
  have T := tour_edges h h1 h6
  have at_ : ∀ {u : Int}, Pl (byE o.length (edges o)) u → ∃ i, i < o.length ∧ plr o i = u := fun {u} p => h.has p.1 (by have := p.2; rw [byE_len] at this; exact this)
  obtain ⟨i, hi, rfl⟩ := at_ px
  obtain ⟨j, hj, rfl⟩ := at_ (T.beaten xy)
  obtain ⟨k, hk, rfl⟩ := at_ (T.beaten yz)
  have t : tri o.length (sgs o) = true := by
    unfold tri
    rw [List.any_eq_true]
    refine ⟨i, List.mem_range.mpr hi, ?_⟩
    rw [List.any_eq_true]
    refine ⟨j, List.mem_range.mpr hj, ?_⟩
    rw [row_edge h h1 h6 hi hj xy, Bool.true_and, List.any_eq_true]
    refine ⟨k, List.mem_range.mpr hk, ?_⟩
    rw [row_edge h h1 h6 hj hk yz, row_edge h h1 h6 hk hi zx]
    rfl
  obtain ⟨u, hu, rfl⟩ := at_ pa
  obtain ⟨v, hv, rfl⟩ := at_ pb'
  have n := near_all (s := sgs o) (n := o.length) (by simp [sgs]) h6 t hu hv
  unfold near at n
  simp only [Bool.or_eq_true, beq_iff_eq, List.any_eq_true, List.mem_range, Bool.and_eq_true] at n
  rcases n with (e | e) | ⟨k1, l1, e1, e2 | ⟨k2, l2, e2, e3⟩⟩
  · subst e
    exact ⟨_, .start, by simp⟩
  · exact ⟨_, .step .start (edge_row h hu hv e), by simp⟩
  · exact ⟨_, .step (.step .start (edge_row h hu l1 e1)) (edge_row h l1 hv e2), by simp⟩
  · exact ⟨_, .step (.step (.step .start (edge_row h hu l1 e1)) (edge_row h l1 l2 e2)) (edge_row h l2 hv e3), by simp⟩
end RB
/-! The plain law, part 3: rows of walks, grown by one step each. -/
namespace RB
theorem row_mem {T : List (List Int)} (x : Int) : rowAt T x = [] ∨ ∃ i : Nat, T[i]? = some (rowAt T x) ∧ x.toNat = i := by
  unfold rowAt
  rw [List.getD_eq_getElem?_getD]
  cases q : T[x.toNat]? with
  | none => exact .inl rfl
  | some r => exact .inr ⟨x.toNat, q, rfl⟩
theorem row_nd {T : List (List Int)} (t : Tour T) (x : Int) : (rowAt T x).Nodup := by
  rcases row_mem (T := T) x with h | ⟨i, h, _⟩
  · rw [h]
    exact List.nodup_nil
  · exact (t.asc i _ h).imp fun {a b} c e => by omega
theorem row_len {T : List (List Int)} (t : Tour T) (x : Int) : (rowAt T x).length ≤ 6 := by
  have l := (row_nd t x).length_le_of_subset (l₂ := (List.range T.length).map fun i : Nat => (i : Int)) fun y m => by
    obtain ⟨h0, h1⟩ := t.beaten m
    exact List.mem_map.mpr ⟨y.toNat, List.mem_range.mpr (by omega), by omega⟩
  rw [List.length_map, List.length_range] at l
  exact Nat.le_trans l t.most
theorem row_irr {T : List (List Int)} (t : Tour T) {x : Int} (p : Pl T x) : x ∉ rowAt T x := by
  obtain ⟨i, e, _, h⟩ := p.row
  have := t.irr i _ h
  rw [← e] at this
  exact this
def ext (T : List (List Int)) (ok : Wk → Int → Bool) (r : Wk) : List Wk := ((rowAt T (lastI r)).filter (ok r)).map fun b => r ++ [b]
def stepR (T : List (List Int)) (ok : Wk → Int → Bool) (rows : List Wk) : List Wk := rows.flatMap (ext T ok)
def rowsK (T : List (List Int)) (ok : Wk → Int → Bool) (rows : List Wk) : Nat → List Wk
  | 0 => rows
  | k + 1 => stepR T ok (rowsK T ok rows k)
theorem mem_ext {T : List (List Int)} {ok : Wk → Int → Bool} {r w : Wk} : w ∈ ext T ok r ↔ ∃ b ∈ rowAt T (lastI r), ok r b = true ∧ w = r ++ [b] := by
  unfold ext
  rw [List.mem_map]
  constructor
  · rintro ⟨b, hb, rfl⟩
    obtain ⟨h1, h2⟩ := List.mem_filter.mp hb
    exact ⟨b, h1, h2, rfl⟩
  · rintro ⟨b, h1, h2, rfl⟩
    exact ⟨b, List.mem_filter.mpr ⟨h1, h2⟩, rfl⟩
theorem mem_stepR {T : List (List Int)} {ok : Wk → Int → Bool} {rows : List Wk} {w : Wk} : w ∈ stepR T ok rows ↔ ∃ r ∈ rows, ∃ b ∈ rowAt T (lastI r), ok r b = true ∧ w = r ++ [b] := by
  unfold stepR
  rw [List.mem_flatMap]
  constructor
  · rintro ⟨r, hr, h⟩
    exact ⟨r, hr, mem_ext.mp h⟩
  · rintro ⟨r, hr, h⟩
    exact ⟨r, hr, mem_ext.mpr h⟩
theorem ext_len {T : List (List Int)} (t : Tour T) (ok : Wk → Int → Bool) (r : Wk) : (ext T ok r).length ≤ 6 := by
  unfold ext
  rw [List.length_map]
  exact Nat.le_trans (List.length_filter_le _ _) (row_len t _)
theorem stepR_len {T : List (List Int)} (t : Tour T) (ok : Wk → Int → Bool) : ∀ rows : List Wk, (stepR T ok rows).length ≤ 6 * rows.length
  | [] => Nat.le_refl _
  | r :: rows => by
    have ih := stepR_len t ok rows
    have e := ext_len t ok r
    show (ext T ok r ++ stepR T ok rows).length ≤ _
    rw [List.length_append, List.length_cons]
    omega
theorem ext_nodup {T : List (List Int)} (t : Tour T) (ok : Wk → Int → Bool) (r : Wk) : (ext T ok r).Nodup := by
  unfold ext
  have h := (row_nd t (lastI r)).filter (ok r)
  refine List.Pairwise.map _ (fun a b n e => n ?_) h
  have := List.append_cancel_left e
  exact (List.cons.inj this).1
theorem stepR_nodup {T : List (List Int)} (t : Tour T) (ok : Wk → Int → Bool) {rows : List Wk} (h : rows.Nodup) : (stepR T ok rows).Nodup := by
  unfold stepR
  refine List.pairwise_flatMap.mpr ⟨fun r _ => ext_nodup t ok r, h.imp fun {a b} n x hx y hy e => n ?_⟩
  obtain ⟨c, _, _, rfl⟩ := mem_ext.mp hx
  obtain ⟨d, _, _, rfl⟩ := mem_ext.mp hy
  exact (List.append_inj' e rfl).1
theorem stepR_take {T : List (List Int)} {ok : Wk → Int → Bool} {rows : List Wk} {j : Nat} {r : Wk} (h : rows[j]? = some r) : stepR T ok (rows.take (j + 1)) = stepR T ok (rows.take j) ++ ext T ok r := by
  unfold stepR
  rw [List.take_add_one, h, List.flatMap_append]
  simp
def okAll : Wk → Int → Bool := fun _ _ => true
def okNew : Wk → Int → Bool := fun r b => !decide (b ∈ r)
theorem rowsK_walk {T : List (List Int)} {p : Int} : ∀ (k : Nat) {w : Wk}, w ∈ rowsK T okAll [[p]] k → ∃ x, Walk T p x w ∧ w.length = k + 1
  | 0, w, h => by
    rw [List.mem_singleton.mp h]
    exact ⟨p, .start, rfl⟩
  | k + 1, w, h => by
    obtain ⟨r, hr, b, hb, _, rfl⟩ := mem_stepR.mp h
    obtain ⟨x, hw, hl⟩ := rowsK_walk k hr
    rw [hw.last] at hb
    exact ⟨b, .step hw hb, by rw [List.length_append, hl]; rfl⟩
theorem rowsK_len {T : List (List Int)} (t : Tour T) (ok : Wk → Int → Bool) {rows : List Wk} : ∀ k, (rowsK T ok rows k).length ≤ 6 ^ k * rows.length
  | 0 => by show rows.length ≤ _; omega
  | k + 1 => by
    have ih := rowsK_len t ok (rows := rows) k
    have := stepR_len t ok (rowsK T ok rows k)
    show (stepR T ok (rowsK T ok rows k)).length ≤ _
    rw [Nat.pow_succ, Nat.mul_comm (6 ^ k) 6, Nat.mul_assoc]
    omega
theorem rowsK_ne {T : List (List Int)} {ok : Wk → Int → Bool} {rows : List Wk} (h : ∀ w ∈ rows, w.length = 1) : ∀ k, ∀ w ∈ rowsK T ok rows k, w.length = k + 1
  | 0, w, m => h w m
  | k + 1, w, m => by
    obtain ⟨r, hr, b, hb, _, rfl⟩ := mem_stepR.mp m
    rw [List.length_append, rowsK_ne h k r hr]
    rfl
theorem rowsK_pl {T : List (List Int)} (t : Tour T) {ok : Wk → Int → Bool} {rows : List Wk} (h : ∀ w ∈ rows, Pl T (lastI w)) : ∀ k, ∀ w ∈ rowsK T ok rows k, Pl T (lastI w)
  | 0, w, m => h w m
  | k + 1, w, m => by
    obtain ⟨r, hr, b, hb, _, rfl⟩ := mem_stepR.mp m
    rw [lastI_snoc]
    exact t.beaten hb
def ones (T : List (List Int)) : List Wk := (List.range T.length).map fun i : Nat => [(i : Int)]
theorem mem_ones {T : List (List Int)} {w : Wk} (h : w ∈ ones T) : ∃ x, w = [x] ∧ Pl T x := by
  obtain ⟨i, hi, rfl⟩ := List.mem_map.mp h
  rw [List.mem_range] at hi
  refine ⟨_, rfl, ?_, ?_⟩ <;> omega
theorem ones_nodup (T : List (List Int)) : (ones T).Nodup := by
  unfold ones
  refine List.Pairwise.map _ (fun a b n e => n ?_) List.nodup_range
  have := (List.cons.inj e).1
  omega
/-- rows of three -/
theorem rows3 {T : List (List Int)} (t : Tour T) {w : Wk} (h : w ∈ rowsK T okNew (ones T) 2) : ∃ x y z, w = [x, y, z] ∧ Pl T x ∧ y ∈ rowAt T x ∧ z ∈ rowAt T y ∧ y ≠ x ∧ z ≠ x := by
  obtain ⟨r, hr, c, hc, ok2, rfl⟩ := mem_stepR.mp h
  obtain ⟨q, hq, b, hb, ok1, rfl⟩ := mem_stepR.mp hr
  obtain ⟨a, rfl, pa⟩ := mem_ones hq
  unfold okNew at ok1 ok2
  have n1 : b ∉ [a] := by simpa using ok1
  have n2 : c ∉ [a] ++ [b] := by simpa using ok2
  refine ⟨a, b, c, rfl, pa, hb, ?_, fun e => n1 (by rw [e]; exact List.mem_singleton.mpr rfl), fun e => n2 (by rw [e]; simp)⟩
  rw [lastI_snoc] at hc
  exact hc
def trips : List Wk := (List.range 6).flatMap fun x : Nat => (List.range 6).flatMap fun y : Nat => (List.range 6).flatMap fun z : Nat => if x < y ∧ x < z then [[(x : Int), (y : Int), (z : Int)]] else []
theorem trips_len : trips.length = 55 := by decide +kernel
theorem mem_trips {x y z : Int} (hx : 0 ≤ x) (h1 : x < y) (h2 : x < z) (hy : y < 6) (hz : z < 6) : [x, y, z] ∈ trips := by
  refine List.mem_flatMap.mpr ⟨x.toNat, List.mem_range.mpr (by omega), List.mem_flatMap.mpr ⟨y.toNat, List.mem_range.mpr (by omega), List.mem_flatMap.mpr ⟨z.toNat, List.mem_range.mpr (by omega), ?_⟩⟩⟩
  rw [if_pos ⟨by omega, by omega⟩]
  have e : ((x.toNat : Nat) : Int) = x ∧ ((y.toNat : Nat) : Int) = y ∧ ((z.toNat : Nat) : Int) = z := ⟨by omega, by omega, by omega⟩
  rw [e.1, e.2.1, e.2.2]
  exact List.mem_singleton.mpr rfl
theorem trips_most {T : List (List Int)} (t : Tour T) {l : List Wk} (hn : l.Nodup) (h : ∀ w ∈ l, ∃ x y z, w = [x, y, z] ∧ Pl T x ∧ y ∈ rowAt T x ∧ z ∈ rowAt T y ∧ x < y ∧ x < z) : l.length < 64 := by
  have := hn.length_le_of_subset (l₂ := trips) fun w m => by
    obtain ⟨x, y, z, rfl, px, hy, hz, h1, h2⟩ := h w m
    have py := t.beaten hy
    have pz := t.beaten hz
    have := t.most
    unfold Pl at px py pz
    exact mem_trips px.1 h1 h2 (by omega) (by omega)
  rw [trips_len] at this
  omega
end RB
/-! The plain law, part 4: what the law asks of best. -/
namespace RB
theorem sortW_one (w : Wk) : sortW [w] = [w] := List.perm_singleton.mp (sortW_perm [w])
theorem key_uniq {b : Bst} (h : (keys b).Nodup) {x : Int} {u v : Wk} (h1 : (x, u) ∈ b) (h2 : (x, v) ∈ b) : u = v := by
  induction b with
  | nil => exact absurd h1 (by simp)
  | cons p b ih =>
    have h' : (p.1 :: keys b).Nodup := h
    rw [List.nodup_cons] at h'
    rcases List.mem_cons.mp h1 with e1 | m1
    · rcases List.mem_cons.mp h2 with e2 | m2
      · rw [← e1] at e2
        exact (congrArg (·.2) e2).symm
      · subst e1
        exact absurd (mem_keys.mpr ⟨_, m2⟩) h'.1
    · rcases List.mem_cons.mp h2 with e2 | m2
      · subst e2
        exact absurd (mem_keys.mpr ⟨_, m1⟩) h'.1
      · exact ih h'.2 m1 m2
/-- a walk of at most four players from everyone to everyone -/
def Near (T : List (List Int)) : Prop := ∀ x y, Pl T x → Pl T y → ∃ w, (y, w) ∈ best T x ∧ w.length ≤ 4
theorem near_of {T : List (List Int)} {o : Ord} (t : Tour T) (h : Good o) (e : T = byE o.length (edges o)) {x y z : Int} (px : Pl T x) (hy : y ∈ rowAt T x) (hz : z ∈ rowAt T y) (hx : x ∈ rowAt T z) : Near T := by
  subst e
  have l : (byE o.length (edges o)).length = o.length := byE_len _ _
  have h1 : 1 ≤ o.length := by rw [← l]; exact t.pos
  have h6 : o.length ≤ 6 := by rw [← l]; exact t.most
  intro a b pa pb
  obtain ⟨v, hv, lv⟩ := ring_near h h1 h6 px hy hz hx pa pb
  obtain ⟨w, m, q⟩ := best_opt t pa hv
  exact ⟨w, m, by omega⟩
end RB
/-! The text by places. -/
namespace RB
open PySem PySem.Spec PyProof.Rows L2
def top (i : Nat) : Stmt := PySem.Challenge.pw_ringbeats_k44_whole_shortest_walks.main.body.getD i (.Pass ⟨0, 0, 0, 0⟩)
abbrev s_is_whole : Stmt := top 5
abbrev s_is_climbing : Stmt := top 7
abbrev s_is_tournament : Stmt := top 8
abbrev s_beats : Stmt := top 9
abbrev s_check_tournament : Stmt := top 11
abbrev s_is_player : Stmt := top 12
abbrev s_tournament_by : Stmt := top 13
abbrev s_order_of : Stmt := top 14
abbrev s_told_order : Stmt := top 15
abbrev s_is_path : Stmt := top 18
abbrev s_is_walk : Stmt := top 19
abbrev s_check_two : Stmt := top 20
abbrev s_walks_from : Stmt := top 21
abbrev s_shortest_walk : Stmt := top 22
abbrev s_law_stream : Stmt := top 24
abbrev s_law_next : Stmt := top 25
abbrev s_law_tournament : Stmt := top 27
abbrev s_law_order : Stmt := top 28
abbrev s_law_by_order : Stmt := top 29
abbrev s_law_some : Stmt := top 30
abbrev s_law_walks : Stmt := top 31
abbrev s_law_rows : Stmt := top 32
abbrev s_law_triangles : Stmt := top 33
abbrev s_law : Stmt := top 34
abbrev FnP (K : PySem.W.Frag) (x : Str) (st : Stmt) (f : Addr) (fd : FuncData) : Prop := FunD K x x (defArgs st) (defBody st) (defScope st) [] [] f fd
end RB
/-! The head: facts by names, the run. -/
namespace RB
open PySem PySem.Spec PyProof.Rows L2
def d_is_whole : He.DefD := ⟨("is_whole", none), "is_whole", "is_whole", defArgs s_is_whole, defBody s_is_whole, defScope s_is_whole, [], []⟩
def d_is_climbing : He.DefD := ⟨("is_climbing", none), "is_climbing", "is_climbing", defArgs s_is_climbing, defBody s_is_climbing, defScope s_is_climbing, [], []⟩
def d_is_tournament : He.DefD := ⟨("is_tournament", none), "is_tournament", "is_tournament", defArgs s_is_tournament, defBody s_is_tournament, defScope s_is_tournament, [], []⟩
def d_beats : He.DefD := ⟨("beats", none), "beats", "beats", defArgs s_beats, defBody s_beats, defScope s_beats, [], []⟩
def d_check_tournament : He.DefD := ⟨("check_tournament", none), "check_tournament", "check_tournament", defArgs s_check_tournament, defBody s_check_tournament, defScope s_check_tournament, [], []⟩
def d_is_player : He.DefD := ⟨("is_player", none), "is_player", "is_player", defArgs s_is_player, defBody s_is_player, defScope s_is_player, [], []⟩
def d_tournament_by : He.DefD := ⟨("tournament_by", none), "tournament_by", "tournament_by", defArgs s_tournament_by, defBody s_tournament_by, defScope s_tournament_by, [], []⟩
def d_order_of : He.DefD := ⟨("order_of", none), "order_of", "order_of", defArgs s_order_of, defBody s_order_of, defScope s_order_of, [], []⟩
def d_told_order : He.DefD := ⟨("told_order", none), "told_order", "told_order", defArgs s_told_order, defBody s_told_order, defScope s_told_order, [], []⟩
def d_is_path : He.DefD := ⟨("is_path", none), "is_path", "is_path", defArgs s_is_path, defBody s_is_path, defScope s_is_path, [], []⟩
def d_is_walk : He.DefD := ⟨("is_walk", none), "is_walk", "is_walk", defArgs s_is_walk, defBody s_is_walk, defScope s_is_walk, [], []⟩
def d_check_two : He.DefD := ⟨("check_two", none), "check_two", "check_two", defArgs s_check_two, defBody s_check_two, defScope s_check_two, [], []⟩
def d_walks_from : He.DefD := ⟨("walks_from", none), "walks_from", "walks_from", defArgs s_walks_from, defBody s_walks_from, defScope s_walks_from, [], []⟩
def d_shortest_walk : He.DefD := ⟨("shortest_walk", none), "shortest_walk", "shortest_walk", defArgs s_shortest_walk, defBody s_shortest_walk, defScope s_shortest_walk, [], []⟩
def d_law_stream : He.DefD := ⟨("_law_stream", none), "_law_stream", "_law_stream", defArgs s_law_stream, defBody s_law_stream, defScope s_law_stream, [], []⟩
def d_law_next : He.DefD := ⟨("_law_next", none), "_law_next", "_law_next", defArgs s_law_next, defBody s_law_next, defScope s_law_next, [], []⟩
def d_law_tournament : He.DefD := ⟨("_law_tournament", none), "_law_tournament", "_law_tournament", defArgs s_law_tournament, defBody s_law_tournament, defScope s_law_tournament, [], []⟩
def d_law_order : He.DefD := ⟨("_law_order", none), "_law_order", "_law_order", defArgs s_law_order, defBody s_law_order, defScope s_law_order, [], []⟩
def d_law_by_order : He.DefD := ⟨("_law_by_order", none), "_law_by_order", "_law_by_order", defArgs s_law_by_order, defBody s_law_by_order, defScope s_law_by_order, [], []⟩
def d_law_some : He.DefD := ⟨("_law_some", none), "_law_some", "_law_some", defArgs s_law_some, defBody s_law_some, defScope s_law_some, [], []⟩
def d_law_walks : He.DefD := ⟨("_law_walks", none), "_law_walks", "_law_walks", defArgs s_law_walks, defBody s_law_walks, defScope s_law_walks, [], []⟩
def d_law_rows : He.DefD := ⟨("_law_rows", none), "_law_rows", "_law_rows", defArgs s_law_rows, defBody s_law_rows, defScope s_law_rows, [], []⟩
def d_law_triangles : He.DefD := ⟨("_law_triangles", none), "_law_triangles", "_law_triangles", defArgs s_law_triangles, defBody s_law_triangles, defScope s_law_triangles, [], []⟩
def d_law : He.DefD := ⟨("law", none), "law", "law", defArgs s_law, defBody s_law, defScope s_law, [], []⟩
def fn : List He.DefD := [d_is_whole, d_is_climbing, d_is_tournament, d_beats, d_check_tournament, d_is_player, d_tournament_by, d_order_of, d_told_order, d_is_path, d_is_walk, d_check_two, d_walks_from, d_shortest_walk, d_law_stream, d_law_next, d_law_tournament, d_law_order, d_law_by_order, d_law_some, d_law_walks, d_law_rows, d_law_triangles, d_law]
def fa : List He.Fa := [.glo "is_whole", .glo "is_climbing", .glo "is_tournament", .glo "beats", .glo "check_tournament", .glo "is_player", .glo "tournament_by", .glo "order_of", .glo "told_order", .glo "is_path", .glo "is_walk", .glo "check_two", .glo "walks_from", .glo "shortest_walk", .glo "_law_stream", .glo "_law_next", .glo "_law_tournament", .glo "_law_order", .glo "_law_by_order", .glo "_law_some", .glo "_law_walks", .glo "_law_rows", .glo "_law_triangles", .glo "law", .int "MOST_PLAYERS" 8, .int "MOST_WALK" 30, .free "isinstance", .free "int", .free "bool", .free "tuple", .free "all", .free "range", .free "len", .free "sorted", .free "enumerate", .free "list", .free "abs", .free "min"]
abbrev RR : PySem.W.OpenRow := PySem.W.OpenLaw.row PySem.Challenge.rw_ringbeats_k44_whole_shortest_walks
abbrev hk : PySem.W.Hook := He.hookD 4 fa fn
def ob (s : PySem.W.SharedT) : He.AlD := He.obsDG 4 fa fn (HandSHeadRun.getT s)
theorem ob_eq (s : PySem.W.SharedT) : ob s = hk.obs s.abs := He.obsDG_eq (HandSHeadRun.getT_eq s)
theorem run (w : World) : HandSHeadRun.RunEq RR (PySem.W.view RR.prog [34]) hk ob 3000 ["RingError", "BadValue", "MOST_PLAYERS", "is_whole", "is_climbing", "is_tournament", "beats", "check_tournament", "is_player", "tournament_by", "order_of", "told_order", "MOST_WALK", "is_path", "is_walk", "check_two", "walks_from", "shortest_walk", "_law_stream", "_law_next", "_law_is_integer", "_law_tournament", "_law_order", "_law_by_order", "_law_some", "_law_walks", "_law_rows", "_law_triangles"] w := by
  intro os
  kernel_rfl
end RB
/-! Defs as they are called; heaps that hold tournaments and walks. -/
namespace RB
open PySem PySem.Spec PyProof.Rows L2

/-! ### defs -/
/-- the def x stands in the module -/
def Stands (K : PySem.W.Frag) (mg : Str → Option Value) (x : Str) (st : Stmt) : Prop := ∃ (f : Addr) (fd : FuncData), mg x = some (.ref f) ∧ FnP K x st f fd
/-- the module's name x is a def that keeps the promise sp -/
def Df (P : Program) (w : World) (K : PySem.W.Frag) (mg : Str → Option Value) (base : Heap) (x : Str) (k : Nat) (ps : List Str) (sp : Sp) : Prop :=
  ∃ (f : Addr) (fd : FuncData), mg x = some (.ref f) ∧ PySem.W.keepIn K (.ref f) = true ∧ Binds K fd ps [] ∧ FnOk P w K mg base CX0 k f fd ps sp
section
variable {P : Program} {w : World} {K : PySem.W.Frag} {mg : Str → Option Value} {base : Heap}
theorem df_mk {x : Str} {st : Stmt} {N ps : List Str} {k : Nat} {sp : Sp} (S : Stands K mg x st) (sc : FnScope N ps (defScope st))
    (hb : ∀ (kV doc pm : Value) (an : Option Addr) (cdv ct : Value) (us : List Value), us.length = ps.length → bindArgs (PySem.W.fnOf x x (defArgs st) (defBody st) (defScope st) .none kV doc pm an cdv ct) ⟨us, []⟩ = pure (ps.zip us))
    (len : ∀ vs H Q E, sp vs H Q E → vs.length = ps.length)
    (hbody : ∀ (f : Addr) (cdv : Value) (A : Around) (outer : List Env) (s : Shared) (H : Hp) (vs : List V) (Q : VK) (E : XK), Room k (A.deeper (envOfC x (defScope st) s.heap.objs.size f cdv)) → sp vs H Q E →
      ∃ t, PSs (cxOf CX0 P w K mg base N x (defScope st) f cdv A outer s H E).nox (defBody st) t ∧ t { nx := fun _ H' => Q .non H', rt := Q } (start N vs) H) : Df P w K mg base x (k + 1) ps sp := by
  obtain ⟨f, fd, hm, F⟩ := S
  refine ⟨f, fd, hm, F.kp, F.bindsN hb, FunD.ok F sc len fun cdv A outer s H vs Q E hr h => ?_⟩
  obtain ⟨t, h1, h2⟩ := hbody f cdv A outer s H vs Q E hr h
  exact ⟨t, h1.nox, h2⟩
theorem Df.mono {x : Str} {k j : Nat} {ps : List Str} {sp : Sp} (D : Df P w K mg base x k ps sp) (h : k ≤ j) : Df P w K mg base x j ps sp := by
  obtain ⟨f, fd, h1, h2, h3, h4⟩ := D
  exact ⟨f, fd, h1, h2, h3, h4.mono h⟩
end
theorem pcall {X : Cx} {x : Str} {k : Nat} {ps : List Str} {sp : Sp} (D : Df X.prog X.w X.K X.mg X.base x k ps sp) (hr : Room k X.A) {p pos : Pos} {e : Expr} {es : List Expr} {t : TA} (ha : PA X (e :: es) t) (hg : Gl X x := by rfl)
    (hdb : (x == ("__debug__" : Str)) = false := by decide) (he : starEach (e :: es) X.env = (false, eval e X.env) :: starEach es X.env := by rfl) (hpl : (backTo pos (starEach es X.env)).any (·.1) = false := by rfl) :
    PE X (.Call (.Name x p) (e :: es) [] pos) (tCall sp [] E0 t) := by
  obtain ⟨f, fd, hm, hk, hb, F⟩ := D
  exact pe_call F hr hg hm hk hb .nil pass0 ha hdb he hpl
/-- the built-in names that the module leaves alone, its constants -/
structure Tx (mg : Str → Option Value) : Prop where
  isinstance : mg "isinstance" = none
  int : mg "int" = none
  bool : mg "bool" = none
  tuple : mg "tuple" = none
  all : mg "all" = none
  range : mg "range" = none
  len : mg "len" = none
  sorted : mg "sorted" = none
  enumerate : mg "enumerate" = none
  list : mg "list" = none
  abs : mg "abs" = none
  min : mg "min" = none
  mp : ∃ t, mg "MOST_PLAYERS" = some (.int 8 t)
  mw : ∃ t, mg "MOST_WALK" = some (.int 30 t)

/-! ### tests whose answer is known -/
theorem itP {c A B : Prop} [Decidable c] (hc : c) (h : A) : if c then A else B := by
  rw [if_pos hc]
  exact h
theorem itN {c A B : Prop} [Decidable c] (hc : ¬ c) (h : B) : if c then A else B := by
  rw [if_neg hc]
  exact h
/-! ### heaps -/
theorem _root_.L2.Same.new {H H' : Hp} {p : Addr} {o : HO} (s : Same H H') (h : H' p = none) : Same H (upd H' p o) := fun b u e => by
  have := s b u e
  rw [upd_ne (ne_of_none this h)]
  exact this
/-- an object that was not there at H is written -/
theorem _root_.L2.Same.wr {H H' : Hp} {p : Addr} {o : HO} (s : Same H H') (h : H p = none) : Same H (upd H' p o) := fun b u e => by
  rw [upd_ne (ne_of_none e h)]
  exact s b u e
theorem same_new {H : Hp} {p : Addr} {o : HO} (h : H p = none) : Same H (upd H p o) := L2.Same.new (Same.refl H) h

/-- a tuple of ints -/
abbrev Tp (H : Hp) (a : Addr) (ns : List Int) : Prop := H a = some (.tup (ns.map V.int))
/-- objects in a row -/
abbrev Row1 (H : Hp) : List Addr → List (List Int) → Prop := Paired fun r ns => Tp H r ns
/-- a tuple of tuples of ints -/
def T2 (H : Hp) (a : Addr) (T : List (List Int)) : Prop := ∃ rs : List Addr, H a = some (.tup (rs.map V.ref)) ∧ Row1 H rs T
/-- a list of tuples of ints -/
def L2t (H : Hp) (a : Addr) (T : List (List Int)) : Prop := ∃ rs : List Addr, H a = some (.lst (rs.map V.ref)) ∧ Row1 H rs T
theorem Row1.same {H H' : Hp} (s : Same H H') {rs : List Addr} {T : List (List Int)} (h : Row1 H rs T) : Row1 H' rs T := Paired.mono (fun _ _ q => s _ _ q) h
theorem T2.same {H H' : Hp} (s : Same H H') {a : Addr} {T : List (List Int)} (h : T2 H a T) : T2 H' a T := by
  obtain ⟨rs, h1, h2⟩ := h
  exact ⟨rs, s _ _ h1, h2.same s⟩
theorem paired_get {α β : Type} {F : α → β → Prop} : ∀ {l : List α} {m : List β} {i : Nat} {b : β}, Paired F l m → m[i]? = some b → ∃ a, l[i]? = some a ∧ F a b
  | _, _, _, _, .nil, e => by simp at e
  | _, _, 0, _, .cons r _, e => by simp at e; subst e; exact ⟨_, rfl, r⟩
  | _, _, i + 1, b, .cons _ t, e => by
    obtain ⟨u, h1, h2⟩ := paired_get (i := i) (b := b) t (by simpa using e)
    exact ⟨u, by simpa using h1, h2⟩
theorem paired_getL {α β : Type} {F : α → β → Prop} : ∀ {l : List α} {m : List β} {i : Nat} {a : α}, Paired F l m → l[i]? = some a → ∃ b, m[i]? = some b ∧ F a b
  | _, _, _, _, .nil, e => by simp at e
  | _, _, 0, _, .cons r _, e => by simp at e; subst e; exact ⟨_, rfl, r⟩
  | _, _, i + 1, b, .cons _ t, e => by
    obtain ⟨u, h1, h2⟩ := paired_getL (i := i) (a := b) t (by simpa using e)
    exact ⟨u, by simpa using h1, h2⟩
theorem paired_perm {α β : Type} {F : α → β → Prop} {l l' : List α} (p : l.Perm l') : ∀ {m : List β}, Paired F l m → ∃ m', m'.Perm m ∧ Paired F l' m' := by
  induction p with
  | nil => exact fun {m} h => ⟨m, .refl _, h⟩
  | cons x p ih =>
    intro m h
    cases h with
    | cons r t =>
      obtain ⟨m', p', h'⟩ := ih t
      exact ⟨_, p'.cons _, .cons r h'⟩
  | swap x y l =>
    intro m h
    cases h with
    | cons r t =>
      cases t with
      | cons r' t => exact ⟨_, .swap _ _ _, .cons r' (.cons r t)⟩
  | trans p q ih1 ih2 =>
    intro m h
    obtain ⟨m1, p1, h1⟩ := ih1 h
    obtain ⟨m2, p2, h2⟩ := ih2 h1
    exact ⟨m2, p2.trans p1, h2⟩
theorem mem_int {x : Int} {ns : List Int} : inV (.int x) (ns.map V.int) = decide (x ∈ ns) := by
  unfold inV
  rw [Bool.eq_iff_iff, List.any_eq_true, decide_eq_true_eq]
  constructor
  · rintro ⟨v, hv, e⟩
    obtain ⟨n, hn, rfl⟩ := List.mem_map.mp hv
    have e : n = x := by
      have : (n == x) = true := e
      simpa using this
    exact e ▸ hn
  · intro h
    exact ⟨.int x, List.mem_map.mpr ⟨x, h, rfl⟩, by show (x == x) = true; simp⟩
theorem flat_int {ns : List Int} : (ns.map V.int).all flatV = true := by
  rw [List.all_eq_true]
  intro v hv
  obtain ⟨n, _, rfl⟩ := List.mem_map.mp hv
  rfl
theorem at_int {ns : List Int} {i : Nat} {n : Int} (h : ns[i]? = some n) : atI (ns.map V.int) (i : Int) = some (.int n) := atI_nat (by rw [List.getElem?_map, h]; rfl)
theorem at_ref {rs : List Addr} {i : Nat} {r : Addr} (h : rs[i]? = some r) : atI (rs.map V.ref) (i : Int) = some (.ref r) := atI_nat (by rw [List.getElem?_map, h]; rfl)
theorem get_row {M : List (List Int)} {i : Nat} (h : i < M.length) : M[i]? = some (rowAt M (i : Int)) := by
  have e := List.getElem?_eq_getElem h
  rw [rowAt_get e]
  exact e
/-- the row of a player -/
theorem T2.row {H : Hp} {a : Addr} {T : List (List Int)} (h : T2 H a T) {x : Int} (p : Pl T x) : ∃ (xs : List V) (r : Addr), H a = some (.tup xs) ∧ atI xs x = some (.ref r) ∧ Tp H r (rowAt T x) := by
  obtain ⟨rs, h1, h2⟩ := h
  obtain ⟨i, rfl, hi, e⟩ := p.row
  obtain ⟨r, hr, q⟩ := paired_get h2 e
  exact ⟨_, r, h1, at_ref hr, q⟩
theorem T2.len {H : Hp} {a : Addr} {T : List (List Int)} (h : T2 H a T) : ∃ xs : List V, H a = some (.tup xs) ∧ xs.length = T.length := by
  obtain ⟨rs, h1, h2⟩ := h
  exact ⟨_, h1, by rw [List.length_map, h2.length]⟩
end RB
/-! is_whole, is_player, beats, is_climbing, is_tournament, check_tournament, check_two -/
namespace RB
open PySem PySem.Spec PyProof.Rows L2
/-! ### isinstance -/
theorem isi_int {K : PySem.W.Frag} {H : Hp} {x : Int} {Q : VK} (q : Q (.bl true) H) : rIsi K [.int x, .ty "int"] H Q := ⟨_, _, _, _, true, rfl, .ty _, .base (.int _), kit_ty (by decide +kernel), q⟩
theorem isi_bool {K : PySem.W.Frag} {H : Hp} {x : Int} {Q : VK} (q : Q (.bl false) H) : rIsi K [.int x, .ty "bool"] H Q := ⟨_, _, _, _, false, rfl, .ty _, .base (.int _), kit_ty (by decide +kernel), q⟩
theorem isi_tup {K : PySem.W.Frag} {H : Hp} {a : Addr} {xs : List V} {Q : VK} (h : H a = some (.tup xs)) (q : Q (.bl true) H) : rIsi K [.ref a, .ty "tuple"] H Q := ⟨_, _, _, _, true, rfl, .ty _, .base (.tup h), kit_ty (by decide +kernel), q⟩
section
variable {P : Program} {w : World} {K : PySem.W.Frag} {mg : Str → Option Value} {base : Heap}
/-! ### is_whole(value, low, high), is_player(value, many), of ints -/
def spWhole : Sp := fun vs H Q _ => ∃ x lo hi : Int, vs = [.int x, .int lo, .int hi] ∧ Q (.bl (decide (lo ≤ x ∧ x ≤ hi))) H
theorem scWhole : FnScope ["value", "low", "high"] ["value", "low", "high"] (defScope s_is_whole) := ⟨rfl, rfl, rfl, by decide +kernel, rfl, by decide +kernel, by decide +kernel⟩
theorem df_is_whole (S : Stands K mg "is_whole" s_is_whole) (T : Tx mg) : Df P w K mg base "is_whole" 1 ["value", "low", "high"] spWhole := by
  refine df_mk S scWhole (fun _ _ _ _ _ _ us hl => match us, hl with | [_, _, _], _ => rfl) (fun vs H Q E h => ?_) (fun f cdv A outer s H vs Q E hr h => ?_)
  · obtain ⟨x, lo, hi, rfl, _⟩ := h
    rfl
  · obtain ⟨x, lo, hi, rfl, hQ⟩ := h
    refine ⟨_, pss_one (ps_ret (pe_and (pe_callB call_isi (by rfl) T.isinstance (by decide +kernel) (pa_cons (pv 0) (pa_cons (pe_bltn (v := .ty "int") (by rfl) T.int (by decide +kernel) rfl) pa_nil)))
      (pe_and (pe_not (pe_callB call_isi (by rfl) T.isinstance (by decide +kernel) (pa_cons (pv 0) (pa_cons (pe_bltn (v := .ty "bool") (by rfl) T.bool (by decide +kernel) rfl) pa_nil))))
        (pe_one (pe_chain op_le op_le (pv 1) (pv 0) (pv 2)))))), ?_⟩
    refine ⟨_, rfl, _, _, _, _, true, rfl, .ty _, .base (.int _), kit_ty (by decide +kernel), true, rfl, iteT ?_⟩
    refine ⟨_, rfl, _, _, _, _, false, rfl, .ty _, .base (.int _), kit_ty (by decide +kernel), false, rfl, true, rfl, iteT ?_⟩
    refine ⟨_, rfl, _, rfl, _, _, rfl, rfl, _, rfl, ite2 (fun h1 => ⟨_, rfl, _, _, rfl, rfl, ?_⟩) (fun h1 => ?_)⟩
    · have h1 : lo ≤ x := by simpa using h1
      have e : decide (x ≤ hi) = decide (lo ≤ x ∧ x ≤ hi) := by simp [h1]
      show Q (.bl (decide (x ≤ hi))) H
      rw [e]
      exact hQ
    · have h1 : ¬ lo ≤ x := by simpa using h1
      have e : false = decide (lo ≤ x ∧ x ≤ hi) := by simp [h1]
      show Q (.bl false) H
      rw [e]
      exact hQ
def spPlayer : Sp := fun vs H Q _ => ∃ x n : Int, vs = [.int x, .int n] ∧ Q (.bl (decide (0 ≤ x ∧ x < n))) H
theorem scPlayer : FnScope ["value", "many"] ["value", "many"] (defScope s_is_player) := ⟨rfl, rfl, rfl, by decide +kernel, rfl, by decide +kernel, by decide +kernel⟩
theorem df_is_player (S : Stands K mg "is_player" s_is_player) (T : Tx mg) : Df P w K mg base "is_player" 1 ["value", "many"] spPlayer := by
  refine df_mk S scPlayer (fun _ _ _ _ _ _ us hl => match us, hl with | [_, _], _ => rfl) (fun vs H Q E h => ?_) (fun f cdv A outer s H vs Q E hr h => ?_)
  · obtain ⟨x, n, rfl, _⟩ := h
    rfl
  · obtain ⟨x, n, rfl, hQ⟩ := h
    refine ⟨_, pss_one (ps_ret (pe_and (pe_callB call_isi (by rfl) T.isinstance (by decide +kernel) (pa_cons (pv 0) (pa_cons (pe_bltn (v := .ty "int") (by rfl) T.int (by decide +kernel) rfl) pa_nil)))
      (pe_and (pe_not (pe_callB call_isi (by rfl) T.isinstance (by decide +kernel) (pa_cons (pv 0) (pa_cons (pe_bltn (v := .ty "bool") (by rfl) T.bool (by decide +kernel) rfl) pa_nil))))
        (pe_one (pe_chain op_le op_lt pe_int (pv 0) (pv 1)))))), ?_⟩
    refine ⟨_, rfl, _, _, _, _, true, rfl, .ty _, .base (.int _), kit_ty (by decide +kernel), true, rfl, iteT ?_⟩
    refine ⟨_, rfl, _, _, _, _, false, rfl, .ty _, .base (.int _), kit_ty (by decide +kernel), false, rfl, true, rfl, iteT ?_⟩
    refine ⟨_, rfl, _, _, rfl, rfl, _, rfl, ite2 (fun h1 => ⟨_, rfl, _, _, rfl, rfl, ?_⟩) (fun h1 => ?_)⟩
    · have h1 : 0 ≤ x := by simpa using h1
      have e : decide (x < n) = decide (0 ≤ x ∧ x < n) := by simp [h1]
      show Q (.bl (decide (x < n))) H
      rw [e]
      exact hQ
    · have h1 : ¬ 0 ≤ x := by simpa using h1
      have e : false = decide (0 ≤ x ∧ x < n) := by simp [h1]
      show Q (.bl false) H
      rw [e]
      exact hQ
/-! ### beats(tournament, one, other) -/
def spBeats : Sp := fun vs H Q _ => ∃ (a : Addr) (T : List (List Int)) (x y : Int), vs = [.ref a, .int x, .int y] ∧ T2 H a T ∧ Pl T x ∧ Q (.bl (decide (y ∈ rowAt T x))) H
theorem scBeats : FnScope ["tournament", "one", "other"] ["tournament", "one", "other"] (defScope s_beats) := ⟨rfl, rfl, rfl, by decide +kernel, rfl, by decide +kernel, by decide +kernel⟩
theorem df_beats (S : Stands K mg "beats" s_beats) (T : Tx mg) : Df P w K mg base "beats" 1 ["tournament", "one", "other"] spBeats := by
  refine df_mk S scBeats (fun _ _ _ _ _ _ us hl => match us, hl with | [_, _, _], _ => rfl) (fun vs H Q E h => ?_) (fun f cdv A outer s H vs Q E hr h => ?_)
  · obtain ⟨a, T, x, y, rfl, _⟩ := h
    rfl
  · obtain ⟨a, T, x, y, rfl, hT, px, hQ⟩ := h
    obtain ⟨xs, r, e1, e2, e3⟩ := hT.row px
    refine ⟨_, pss_one (ps_ret (pe_cmpR op_in_seq (pv 2) (pe_ix ix_tup (pv 0) (pv 1) (fun _ _ => rfl)) rfl)), ?_⟩
    refine ⟨_, rfl, _, rfl, _, rfl, _, _, _, _, rfl, rfl, SqT.of e1, e2, _, _, rfl, .inr (SqT.of e3), rfl, flat_int, ?_⟩
    show Q (.bl (inV (.int y) ((rowAt T x).map V.int))) H
    rw [mem_int]
    exact hQ
end
end RB
/-! is_climbing, is_tournament, check_tournament, check_two -/
namespace RB
open PySem PySem.Spec PyProof.Rows L2
theorem rep_snoc {n : Nat} {v : V} : List.replicate n v ++ [v] = List.replicate (n + 1) v := by rw [List.replicate_succ']
theorem rep_bl {n : Nat} : List.replicate n (V.bl true) = (List.replicate n true).map V.bl := by rw [List.map_replicate]
theorem rep_all {n : Nat} : (List.replicate n true).all id = true := by simp
theorem small64 {n : Nat} (h : n ≤ 64) : n < sizeLine := Nat.lt_of_le_of_lt h (by decide)
/-- all([..]) where each element is True -/
theorem all_true {K : PySem.W.Frag} {H : Hp} {D : Addr} {n : Nat} {Q : VK} (h : H D = some (.lst (List.replicate n (V.bl true)))) (q : Q (.bl true) H) : ∃ (a : Addr) (bs : List Bool), [V.ref D] = [V.ref a] ∧ SqL K H a (bs.map V.bl) ∧ Q (.bl (bs.all id)) H :=
  ⟨D, List.replicate n true, rfl, SqL.of (rep_bl ▸ h), by rw [rep_all]; exact q⟩
section
variable {P : Program} {w : World} {K : PySem.W.Frag} {mg : Str → Option Value} {base : Heap}
/-! ### is_climbing(value, many), where it is True -/
def spClimb : Sp := fun vs H Q _ => ∃ (a : Addr) (ns : List Int) (n : Int), vs = [.ref a, .int n] ∧ Tp H a ns ∧ (∀ x ∈ ns, 0 ≤ x ∧ x < n) ∧ ns.Pairwise (· < ·) ∧ ns.length ≤ 8 ∧ ∀ H', Same H H' → Q (.bl true) H'
theorem scClimb : FnScope ["value", "many", "one", "at"] ["value", "many"] (defScope s_is_climbing) := ⟨rfl, rfl, rfl, by decide +kernel, rfl, by decide +kernel, by decide +kernel⟩
theorem df_is_climbing (S : Stands K mg "is_climbing" s_is_climbing) (T : Tx mg) (D1 : Df P w K mg base "is_whole" 1 ["value", "low", "high"] spWhole) : Df P w K mg base "is_climbing" 2 ["value", "many"] spClimb := by
  refine df_mk S scClimb (fun _ _ _ _ _ _ us hl => match us, hl with | [_, _], _ => rfl) (fun vs H Q E h => ?_) (fun f cdv A outer s H vs Q E hr h => ?_)
  · obtain ⟨a, ns, n, rfl, _⟩ := h
    rfl
  · obtain ⟨a, ns, n, rfl, hT, hin, hup, hlen, hQ⟩ := h
    refine ⟨_, pss_cons (ps_if (PW.pt (pw_or (pt_not (pt_val (pe_callB call_isi (by rfl) T.isinstance (by decide +kernel) (pa_cons (pv 0) (pa_cons (pe_bltn (v := .ty "tuple") (by rfl) T.tuple (by decide +kernel) rfl) pa_nil)))))
        (pw_or1 (pt_not (pt_val (pe_callB (cr_all rfl) (by rfl) T.all (by decide +kernel) (pa_cons
          (pe_lc (own := [("one", 2)]) (g := gName 2) (tt := tYes) rfl scClimb.nd (pi_tup (pv 0)) (blkOk_by (N := ["value", "many", "one", "at"]) (sc := defScope s_is_climbing) (by decide +kernel))
            (fun _ _ _ _ _ => pg_name (i := 2) scClimb.nd rfl (Or.inl rfl)) (fun _ _ _ _ _ => pts_nil)
            (fun _ _ _ _ _ => pcall D1 hr (pa_cons (pv 2) (pa_cons pe_int (pa_cons (pe_op op_sub (pv 1) pe_int) pa_nil))))) pa_nil)))))))
        (pss_one (ps_ret pe_bl)) pss_nil)
      (pss_one (ps_ret (pe_callB (cr_all rfl) (by rfl) T.all (by decide +kernel) (pa_cons
          (pe_lc (own := [("at", 3)]) (g := gName 3) (tt := tYes) rfl scClimb.nd (pi_range1 (by rfl) T.range (pa_cons (pe_op op_sub (pe_callB call_len_seq (by rfl) T.len PySem.boot_len (pa_cons (pv 0) pa_nil)) pe_int) pa_nil)) (blkOk_by (N := ["value", "many", "one", "at"]) (sc := defScope s_is_climbing) (by decide +kernel))
            (fun _ _ _ _ _ => pg_name (i := 3) scClimb.nd rfl (Or.inl rfl)) (fun _ _ _ _ _ => pts_nil)
            (fun _ _ _ _ _ => pe_cmpR op_lt (pe_ix (r := rIxT K) ix_tup (pv 0) (pv 3) (fun _ _ => rfl)) (pe_ix (r := rIxT K) ix_tup (pv 0) (pe_op op_add (pv 3) pe_int) (fun _ _ => rfl)) (nomark _))) pa_nil)))), ?_⟩
    refine ⟨_, rfl, _, _, _, _, true, rfl, .ty _, .base (.tup hT), kit_ty (by decide +kernel), true, rfl, ?_⟩
    refine iteF ?_
    refine ⟨_, rfl, a, rfl, ⟨_, SqT.of hT⟩, fun D hD => lc_tup (K := K) (a := a) (xs := ns.map V.int) (fun i H' => Same H H' ∧ H' D = some (.lst (List.replicate i (V.bl true)))) ⟨same_new hD, upd_same⟩ (fun i H' _ p => SqT.of (p.1 _ _ hT)) ?_ ?_⟩
    · rintro i x H' hi ⟨sm, hd⟩
      have hi8 : i < ns.length := by simpa using (List.getElem?_eq_some_iff.mp hi).1
      rw [List.getElem?_map] at hi
      obtain ⟨z, hz, rfl⟩ := Option.map_eq_some_iff.mp hi
      have hm := hin z (List.mem_of_getElem? hz)
      refine ⟨rfl, _, rfl, _, rfl, _, _, rfl, rfl, z, 0, n - 1, rfl, _, hd, small64 (by rw [List.length_replicate]; omega), sm.wr hD, ?_⟩
      have e : decide (0 ≤ z ∧ z ≤ n - 1) = true := decide_eq_true (by omega)
      rw [e, upd_same, rep_snoc]
    · rintro H' ⟨sm, hd⟩
      refine ⟨D, List.replicate _ true, rfl, SqL.of (rep_bl ▸ hd), true, by rw [rep_all], ?_⟩
      refine ⟨_, rfl, a, _, rfl, .inr (SqT.of (sm _ _ hT)), _, _, rfl, rfl, _, rfl, ?_, ?_, fun D2 hD2 => lc_range (lo := 0) (n := ((((ns.map V.int).length : Nat) : Int) - 1).toNat) (fun i H2 => Same H H2 ∧ H2 D2 = some (.lst (List.replicate i (V.bl true)))) ⟨sm.new hD2, upd_same⟩ ?_ ?_⟩
      · rw [List.length_map]; omega
      · rw [List.length_map]; omega
      · rintro i H2 hi ⟨sm2, hd2⟩
        rw [List.length_map] at hi
        have h1 : i + 1 < ns.length := by omega
        have z0 : (0 : Int) + (i : Int) = (i : Int) := by omega
        have e0 : atI (ns.map V.int) ((0 : Int) + (i : Int)) = some (.int ns[i]) := by rw [z0]; exact at_int (by simp)
        have e1 : atI (ns.map V.int) ((0 : Int) + (i : Int) + 1) = some (.int ns[i + 1]) := by
          rw [z0]
          exact at_int (i := i + 1) (by simp)
        have lt : ns[i] < ns[i + 1] := List.pairwise_iff_getElem.mp hup i (i + 1) (by omega) h1 (by omega)
        refine ⟨rfl, _, rfl, _, rfl, a, _, _, _, rfl, rfl, SqT.of (sm2 _ _ hT), e0, ?_⟩
        refine ⟨_, rfl, _, rfl, _, _, rfl, rfl, a, _, _, _, rfl, rfl, SqT.of (sm2 _ _ hT), e1, ?_⟩
        refine ⟨_, _, rfl, rfl, _, hd2, small64 (by rw [List.length_replicate]; omega), sm2.wr (sm.free hD2), ?_⟩
        dsimp only
        rw [decide_eq_true lt, upd_same, rep_snoc]
      · rintro H2 ⟨sm2, hd2⟩
        refine ⟨D2, List.replicate _ true, rfl, SqL.of (rep_bl ▸ hd2), ?_⟩
        rw [rep_all]
        exact hQ H2 sm2
/-! ### is_tournament(value), where it is True -/
def spTour : Sp := fun vs H Q _ => ∃ (a : Addr) (T : List (List Int)), vs = [.ref a] ∧ T2 H a T ∧ Tour T ∧ ∀ H', Same H H' → Q (.bl true) H'
theorem scTour : FnScope ["value", "one", "row", "other"] ["value"] (defScope s_is_tournament) := ⟨rfl, rfl, rfl, by decide +kernel, rfl, by decide +kernel, by decide +kernel⟩
theorem nodup_len {n : Nat} {l : List Int} (h : l.Pairwise (· < ·)) (hi : ∀ x ∈ l, 0 ≤ x ∧ x < (n : Int)) : l.length ≤ n := by
  have nd : l.Nodup := h.imp fun {a b} q => by omega
  have q := nd.length_le_of_subset (l₂ := (List.range n).map fun i : Nat => (i : Int)) fun x m => by
    have := hi x m
    exact List.mem_map.mpr ⟨x.toNat, List.mem_range.mpr (by omega), by omega⟩
  simpa using q
theorem df_is_tournament (S : Stands K mg "is_tournament" s_is_tournament) (T : Tx mg) (D1 : Df P w K mg base "is_climbing" 2 ["value", "many"] spClimb) : Df P w K mg base "is_tournament" 3 ["value"] spTour := by
  refine df_mk S scTour (fun _ _ _ _ _ _ us hl => match us, hl with | [_], _ => rfl) (fun vs H Q E h => ?_) (fun f cdv A outer s H vs Q E hr h => ?_)
  · obtain ⟨a, T, rfl, _⟩ := h
    rfl
  · obtain ⟨a, M, rfl, hT, tour, hQ⟩ := h
    obtain ⟨mpt, hmp⟩ := T.mp
    obtain ⟨rs, hrs, hrow⟩ := id hT
    have rl : rs.length = M.length := hrow.length
    refine ⟨_, pss_cons (ps_if (PW.pt (pw_or (pt_not (pt_val (pe_callB call_isi (by rfl) T.isinstance (by decide +kernel) (pa_cons (pv 0) (pa_cons (pe_bltn (v := .ty "tuple") (by rfl) T.tuple (by decide +kernel) rfl) pa_nil)))))
        (pw_or1 (pt_not (pt_chain op_le op_le pe_int (pe_callB call_len_seq (by rfl) T.len PySem.boot_len (pa_cons (pv 0) pa_nil)) (pe_glob (v := .int 8) (by rfl) hmp ⟨_, rfl⟩))))))
        (pss_one (ps_ret pe_bl)) pss_nil)
      (pss_cons (ps_if (pt_not (pt_val (pe_callB (cr_all rfl) (by rfl) T.all (by decide +kernel) (pa_cons
          (pe_lc (own := [("row", 2)]) (g := gName 2) (tt := tYes) rfl scTour.nd (pi_tup (pv 0)) (blkOk_by (N := ["value", "one", "row", "other"]) (sc := defScope s_is_tournament) (by decide +kernel))
            (fun _ _ _ _ _ => pg_name (i := 2) scTour.nd rfl (Or.inl rfl)) (fun _ _ _ _ _ => pts_nil)
            (fun _ _ _ _ _ => pcall D1 hr (pa_cons (pv 2) (pa_cons (pe_callB (r := fun xs H Q => ∃ p ys, xs = [.ref p] ∧ (SqL K H p ys ∨ SqT K H p ys) ∧ Q (.int ys.length) H) call_len_seq (by rfl) T.len PySem.boot_len (pa_cons (pv 0) pa_nil)) pa_nil)))) pa_nil))))
        (pss_one (ps_ret pe_bl)) pss_nil)
      (pss_cons (ps_for PassesOwn.never rfl (pi_range1 (by rfl) T.range (pa_cons (pe_callB call_len_seq (by rfl) T.len PySem.boot_len (pa_cons (pv 0) pa_nil)) pa_nil)) (pg_name (i := 1) scTour.nd rfl (Or.inr rfl))
        (pss_one (ps_if (PW.pt (pw_or (pt_cmpR op_in_seq (pv 1) (pe_ix ix_tup (pv 0) (pv 1) (fun _ _ => rfl)) rfl)
          (pw_or1 (pt_not (pt_val (pe_callB (cr_all rfl) (by rfl) T.all (by decide +kernel) (pa_cons
            (pe_lc (own := [("other", 3)]) (g := gName 3) (tt := tYes) rfl scTour.nd (pi_range1 (by rfl) T.range (pa_cons (pv 1) pa_nil)) (blkOk_by (N := ["value", "one", "row", "other"]) (sc := defScope s_is_tournament) (by decide +kernel))
              (fun _ _ _ _ _ => pg_name (i := 3) scTour.nd rfl (Or.inl rfl)) (fun _ _ _ _ _ => pts_nil)
              (fun _ _ _ _ _ => pe_cmpR op_ne (pe_cmpR (r := rIn K false) op_in_seq (pv 3) (pe_ix (r := rIxT K) ix_tup (pv 0) (pv 1) (fun _ _ => rfl)) rfl) (pe_cmpR (r := rIn K false) op_in_seq (pv 1) (pe_ix (r := rIxT K) ix_tup (pv 0) (pv 3) (fun _ _ => rfl)) rfl) (nomark _))) pa_nil)))))))
          (pss_one (ps_ret pe_bl)) pss_nil)))
      (pss_one (ps_ret pe_bl)))), ?_⟩
    refine ⟨_, rfl, _, _, _, _, true, rfl, .ty _, .base (.tup hrs), kit_ty (by decide +kernel), true, rfl, ?_⟩
    refine iteF ?_
    refine ⟨_, rfl, a, _, rfl, .inr (SqT.of hrs), _, _, rfl, rfl, _, rfl, ?_⟩
    have l1 := tour.pos
    have l6 := tour.most
    have e1 : decide ((1 : Int) ≤ (((rs.map V.ref).length : Nat) : Int)) = true := decide_eq_true (by rw [List.length_map]; omega)
    have e2 : decide ((((rs.map V.ref).length : Nat) : Int) ≤ 8) = true := decide_eq_true (by rw [List.length_map]; omega)
    refine itP e1 ?_
    refine ⟨_, _, rfl, rfl, _, rfl, ?_⟩
    rw [e2]
    refine iteF ?_
    -- all rows climb
    refine ⟨_, rfl, a, rfl, ⟨_, SqT.of hrs⟩, fun D hD => lc_tup (K := K) (a := a) (xs := rs.map V.ref) (fun i H' => Same H H' ∧ H' D = some (.lst (List.replicate i (V.bl true)))) ⟨same_new hD, upd_same⟩ (fun i H' _ p => SqT.of (p.1 _ _ hrs)) ?_ ?_⟩
    · rintro i x H' hi ⟨sm, hd⟩
      rw [List.getElem?_map] at hi
      obtain ⟨r, hr', rfl⟩ := Option.map_eq_some_iff.mp hi
      have hi8 : i < rs.length := (List.getElem?_eq_some_iff.mp hr').1
      obtain ⟨row, hrow', hTI⟩ := paired_getL hrow hr'
      refine ⟨rfl, _, rfl, _, rfl, a, _, rfl, .inr (SqT.of (sm _ _ hrs)), ?_⟩
      have hin := tour.rng i row hrow'
      have hup := tour.asc i row hrow'
      refine ⟨r, row, _, rfl, sm _ _ hTI, ?_, hup, Nat.le_trans (nodup_len (n := M.length) hup hin) (by omega), fun H4 sm4 => ?_⟩
      · intro x hx
        have := hin x hx
        rw [List.length_map, rl]
        exact this
      · refine ⟨_, sm4 _ _ hd, small64 (by rw [List.length_replicate]; omega), (sm.trans sm4).wr hD, ?_⟩
        rw [upd_same, rep_snoc]
    rintro H1 ⟨sm1, hd1⟩
    refine ⟨D, List.replicate _ true, rfl, SqL.of (rep_bl ▸ hd1), true, by rw [rep_all], ?_⟩
    refine iteF ?_
    -- each two
    refine ⟨_, rfl, a, _, rfl, .inr (SqT.of (sm1 _ _ hrs)), _, rfl, ?_, ?_, for_range (lo := 0) (n := (((rs.map V.ref).length : Nat) : Int).toNat) (fun i σ H' => Same H H' ∧ ∃ o, σ = [some (.ref a), o, none, none]) ⟨sm1, none, rfl⟩ ?_ ?_⟩
    · rw [List.length_map]; omega
    · rw [List.length_map]; omega
    · rintro i σ H' hi ⟨sm, o, rfl⟩
      rw [List.length_map] at hi
      have hi' : i < M.length := by omega
      have z0 : (0 : Int) + (i : Int) = (i : Int) := by omega
      rw [z0]
      have pi : Pl M (i : Int) := ⟨by omega, by omega⟩
      have hT' := hT.same sm
      obtain ⟨xs, r, g1, g2, g3⟩ := hT'.row pi
      have gi := get_row hi'
      have irr := tour.irr i _ gi
      refine ⟨_, rfl, _, rfl, _, rfl, _, _, _, _, rfl, rfl, SqT.of g1, g2, _, _, rfl, .inr (SqT.of g3), rfl, flat_int, _, rfl, ?_⟩
      show if inV (.int (i : Int)) ((rowAt M (i : Int)).map V.int) = true then _ else _
      rw [mem_int, decide_eq_false irr]
      refine iteF ?_
      refine ⟨_, rfl, _, rfl, (by omega), (by omega), fun D2 hD2 => lc_range (lo := 0) (n := ((i : Nat) : Int).toNat) (fun j H2 => Same H H2 ∧ H2 D2 = some (.lst (List.replicate j (V.bl true)))) ⟨sm.new hD2, upd_same⟩ ?_ ?_⟩
      · rintro j H2 hj ⟨sm2, hd2⟩
        have z1 : (0 : Int) + (j : Int) = (j : Int) := by omega
        rw [z1]
        have hj' : j < i := by omega
        have pj : Pl M (j : Int) := ⟨by omega, by omega⟩
        have hT2 := hT.same sm2
        obtain ⟨xs, r, g1, g2, g3⟩ := hT2.row pi
        obtain ⟨xs', r', k1, k2, k3⟩ := hT2.row pj
        refine ⟨rfl, ?_⟩
        refine ⟨_, rfl, _, rfl, _, rfl, _, _, _, _, rfl, rfl, SqT.of g1, g2, _, _, rfl, .inr (SqT.of g3), rfl, flat_int, ?_⟩
        refine ⟨_, rfl, _, rfl, _, rfl, _, _, _, _, rfl, rfl, SqT.of k1, k2, _, _, rfl, .inr (SqT.of k3), rfl, flat_int, ?_⟩
        refine ⟨rfl, _, hd2, small64 (by rw [List.length_replicate]; omega), sm2.wr (sm.free hD2), ?_⟩
        show upd H2 D2 (.lst (List.replicate j (V.bl true) ++ [V.bl (!decide (V.bl (inV (.int (j : Int)) ((rowAt M (i : Int)).map V.int)) = V.bl (inV (.int (i : Int)) ((rowAt M (j : Int)).map V.int))))])) D2 = _
        have one := tour.one i j _ _ gi (get_row (by omega)) (by omega)
        rw [mem_int, mem_int, dec_bl, upd_same]
        have e : (!(decide ((j : Int) ∈ rowAt M (i : Int)) == decide ((i : Int) ∈ rowAt M (j : Int)))) = true := by
          by_cases c : (j : Int) ∈ rowAt M (i : Int)
          · rw [decide_eq_true c, decide_eq_false (one.mp c)]
            rfl
          · have c' : (i : Int) ∈ rowAt M (j : Int) := Classical.byContradiction fun z => c (one.mpr z)
            rw [decide_eq_false c, decide_eq_true c']
            rfl
        rw [e, rep_snoc]
      · rintro H2 ⟨sm2, hd2⟩
        refine ⟨D2, List.replicate _ true, rfl, SqL.of (rep_bl ▸ hd2), true, by rw [rep_all], ?_⟩
        refine iteF ?_
        exact ⟨sm2, _, rfl⟩
    · rintro σ H' ⟨sm, o, rfl⟩
      exact hQ H' sm
/-! ### check_tournament(value), check_two(tournament, one, other), where nothing is raised -/
def spCheck : Sp := fun vs H Q _ => ∃ (a : Addr) (T : List (List Int)), vs = [.ref a] ∧ T2 H a T ∧ Tour T ∧ ∀ H', Same H H' → Q .non H'
theorem scCheck : FnScope ["value"] ["value"] (defScope s_check_tournament) := ⟨rfl, rfl, rfl, by decide +kernel, rfl, by decide +kernel, by decide +kernel⟩
theorem df_check (S : Stands K mg "check_tournament" s_check_tournament) (D1 : Df P w K mg base "is_tournament" 3 ["value"] spTour) : Df P w K mg base "check_tournament" 4 ["value"] spCheck := by
  refine df_mk S scCheck (fun _ _ _ _ _ _ us hl => match us, hl with | [_], _ => rfl) (fun vs H Q E h => ?_) (fun f cdv A outer s H vs Q E hr h => ?_)
  · obtain ⟨a, T, rfl, _⟩ := h
    rfl
  · obtain ⟨a, M, rfl, hT, tour, hQ⟩ := h
    refine ⟨_, pss_one (ps_if (pt_not (pt_val (pcall D1 hr (pa_cons (pv 0) pa_nil)))) pss_never pss_nil), ?_⟩
    refine ⟨_, rfl, a, M, rfl, hT, tour, fun H' sm => ⟨true, rfl, iteF ?_⟩⟩
    exact hQ H' sm
def spTwo : Sp := fun vs H Q _ => ∃ (a : Addr) (T : List (List Int)) (x y : Int), vs = [.ref a, .int x, .int y] ∧ T2 H a T ∧ Tour T ∧ Pl T x ∧ Pl T y ∧ ∀ H', Same H H' → Q .non H'
theorem scTwo : FnScope ["tournament", "one", "other"] ["tournament", "one", "other"] (defScope s_check_two) := ⟨rfl, rfl, rfl, by decide +kernel, rfl, by decide +kernel, by decide +kernel⟩
theorem df_check_two (S : Stands K mg "check_two" s_check_two) (T : Tx mg) (D1 : Df P w K mg base "check_tournament" 4 ["value"] spCheck) (D2 : Df P w K mg base "is_player" 1 ["value", "many"] spPlayer) :
    Df P w K mg base "check_two" 5 ["tournament", "one", "other"] spTwo := by
  refine df_mk S scTwo (fun _ _ _ _ _ _ us hl => match us, hl with | [_, _, _], _ => rfl) (fun vs H Q E h => ?_) (fun f cdv A outer s H vs Q E hr h => ?_)
  · obtain ⟨a, T, x, y, rfl, _⟩ := h
    rfl
  · obtain ⟨a, M, x, y, rfl, hT, tour, px, py, hQ⟩ := h
    refine ⟨_, pss_cons (ps_expr (pcall D1 hr (pa_cons (pv 0) pa_nil)))
      (pss_cons (ps_if (pt_not (pt_val (pcall (D2.mono (by decide)) hr (pa_cons (pv 1) (pa_cons (pe_callB call_len_seq (by rfl) T.len PySem.boot_len (pa_cons (pv 0) pa_nil)) pa_nil))))) pss_never pss_nil)
      (pss_one (ps_if (pt_not (pt_val (pcall (D2.mono (by decide)) hr (pa_cons (pv 2) (pa_cons (pe_callB call_len_seq (by rfl) T.len PySem.boot_len (pa_cons (pv 0) pa_nil)) pa_nil))))) pss_never pss_nil))), ?_⟩
    refine ⟨_, rfl, a, M, rfl, hT, tour, fun H' sm => ?_⟩
    obtain ⟨xs, e, l⟩ := (hT.same sm).len
    refine ⟨_, rfl, _, rfl, a, _, rfl, .inr (SqT.of e), _, _, rfl, _, rfl, ?_⟩
    have e1 : decide (0 ≤ x ∧ x < ((xs.length : Nat) : Int)) = true := decide_eq_true ⟨px.1, by rw [l]; exact px.2⟩
    have e2 : decide (0 ≤ y ∧ y < ((xs.length : Nat) : Int)) = true := decide_eq_true ⟨py.1, by rw [l]; exact py.2⟩
    rw [e1]
    refine iteF ?_
    refine ⟨_, rfl, _, rfl, a, _, rfl, .inr (SqT.of e), _, _, rfl, _, rfl, ?_⟩
    rw [e2]
    refine iteF ?_
    exact hQ H' sm
end
end RB
/-! Further rules: enumerate of a tuple. -/
namespace RB
open PySem PySem.Spec PyProof.Rows L2
open Sem (wp)

theorem meets_enum1 {v : Value} {o : Obj} {H : Heap → Prop} (B : Begins v o H) :
    Meets (Builtin.«enumerate.__new__» ⟨[.type "enumerate", v], []⟩) (fun _ R s => H s.heap ∧
      R (.ok (.ret (.ref (s.heap.push o).objs.size))) { s with heap := (s.heap.push o).push { cls := .type "enumerate", data := .fields #[.none, .bool false, .ref s.heap.objs.size, rawInt 0, .none, .none] } }) :=
  .of_wp fun prog w A R s h => by
    obtain ⟨hp, g, d, tk, os⟩ := s; obtain ⟨h1, h⟩ := h
    have hsub := sub_enumerate
    have q1 : ∀ {A' : Around} {E : Value → Shared → Prop} {Q : Value → Shared → Prop}, Q (.ref hp.objs.size) ⟨hp.push o, g, d, tk, os⟩ → wpAny (model prog w) A' (pyIter v) Q E ⟨hp, g, d, tk, os⟩ :=
      fun q => B.iter prog w _ _ ⟨hp, g, d, tk, os⟩ _ h1 q
    wp_walk using q1
    refine wpAny_stack_any fun st => wpAny_pure ?_
    split
    · rename_i c _ _ _ _ _
      cases (c == Value.type "enumerate")
      · wp_walk using q1
        exact ⟨_, rfl, h⟩
      · wp_walk using q1
        exact ⟨_, rfl, h⟩
    · wp_walk using q1
      exact ⟨_, rfl, h⟩
section
variable {prog : Program} {w : World} {A : Around} {E : Value → Shared → Prop} {s : Shared}
theorem enum_begins1 {v : Value} {o : Obj} {H : Heap → Prop} {Q : Value → Shared → Prop} (B : Begins v o H) (h1 : H s.heap)
    (h : ∀ h', IsEnum h' (s.heap.objs.size + 1) s.heap.objs.size 0 .none → h'.get? s.heap.objs.size = some o → h'.objs.size = s.heap.objs.size + 2 →
      (∀ b o, s.heap.get? b = some o → h'.get? b = some o) → Q (.ref (s.heap.objs.size + 1)) { s with heap := h' }) :
    wpAny (model prog w) A (call (.type "enumerate") [v]) Q E s := by
  refine callType_new F.called_enumerate (by decide) (F.typeCall_enumerate_1 _) (F.newCall_enumerate_1 _) (fun obj => F.args_object_init_2 obj _) F.entry_enumerate_new
    (meets_enum1 B) ⟨h1, ?_⟩
  have hz : (s.heap.push o).objs.size = s.heap.objs.size + 1 := Heap.size_push ..
  show _ ∧ _
  rw [hz]
  have he : IsEnum ((s.heap.push o).push { cls := .type "enumerate", data := .fields #[.none, .bool false, .ref s.heap.objs.size, rawInt 0, .none, .none] }) (s.heap.objs.size + 1) s.heap.objs.size 0 .none := by
    have := Heap.get?_push_size (s.heap.push o) (o := { cls := .type "enumerate", data := .fields #[.none, .bool false, .ref s.heap.objs.size, rawInt 0, .none, .none] }) rfl
    rw [hz] at this; exact this
  refine ⟨⟨_, he, rfl⟩, h _ he (Heap.get?_push_of_some _ (Heap.get?_push_size _ B.free)) (by rw [Heap.size_push, hz]) fun b o x => Heap.get?_push_of_some _ (Heap.get?_push_of_some _ x)⟩
end

/-- the tuple at a, each item in a new pair with its place -/
def IteT (K : PySem.W.Frag) (a : Addr) : It :=
  ⟨fun i H => ∃ (xs : List V) (x : V), SqT K H a xs ∧ xs[i]? = some x, fun i H v H' => ∃ T x, v = .ref T ∧ H T = none ∧ H' = upd H T (.tup [.int (i : Nat), x]) ∧ ∀ xs, SqT K H a xs → xs[i]? = some x, fun i H => ∃ xs : List V, SqT K H a xs ∧ xs.length ≤ i⟩
theorem turn_enumT {P : Program} {w : World} {K : PySem.W.Frag} {elts : List Expr} {kk : Nat} {tpos : Pos} (a e it : Addr) :
    Turn P w K (.Tuple elts kk tpos) (IteT K a) [e, it] e (fun i h => (∃ old, IsEnum h e it ((i : Nat) : Int) old) ∧ h.IsTupleIter it a i ∧ e ≠ it) where
  mem := by simp
  obj := fun i h st b hb => by
    obtain ⟨⟨old, he⟩, ⟨o, ho, hc, hd⟩, _⟩ := st
    have e' : b = e ∨ b = it := by simpa using hb
    rcases e' with z | z
    · rw [z]; exact ⟨_, he, fun v q => nomatch q⟩
    · rw [z]; exact ⟨o, ho, fun v q => by rw [hd] at q; cases q⟩
  keep := fun i h h' st k => let ⟨⟨old, he⟩, hi, hne⟩ := st; ⟨⟨old, k e (by simp) _ he⟩, hi.at fun o q => k it (by simp) o q, hne⟩
  item := by
    intro X hP hw hK hc i pins s σ H E I hf st hg
    subst hP hw hK
    obtain ⟨⟨old, he⟩, hit, hne⟩ := st
    obtain ⟨xs, x, hq, hx⟩ := hg
    obtain ⟨its, rv, p, hz⟩ := I.tuple hq
    obtain ⟨u, hu, ru⟩ := rv.get hx
    have hel : e < s.heap.objs.size := Heap.lt_size he
    have hil : it < s.heap.objs.size := by obtain ⟨_, q, _⟩ := hit; exact Heap.lt_size q
    have hai : a ≠ it := by
      rintro rfl
      obtain ⟨o1, q1, c1, _⟩ := hit
      obtain ⟨o2, q2, c2, _⟩ := p
      rw [q1] at q2; cases q2
      rw [c1] at c2
      injection c2 with c2
      exact absurd c2 (by decide)
    have hea : e ≠ a := by
      rintro rfl
      obtain ⟨o2, q2, c2, _⟩ := p
      have he' : s.heap.get? e = some _ := he
      rw [he'] at q2; cases q2
      injection c2 with c2
      exact absurd c2 (by decide)
    have hlt : i < its.toArray.size := by
      have l1 := (List.getElem?_eq_some_iff.mp hu).1
      simpa using l1
    refine wpAny_pyNext_enum_itemC (Draws.tuple (prog := X.prog) (w := X.w) (A := X.A.in1) (I.ok.hd hc) it a hai its.toArray) he ⟨hit, p⟩ hlt hne (by simp [hne, hea]) fun y h' tk hP ho hst hT hsz hk => ?_
    have ey : y = u := by
      have q : its.toArray[i]? = some y := hP
      have q2 : its.toArray[i]? = some u := by simpa using hu
      rw [q] at q2
      exact Option.some.inj q2
    subst ey
    refine ⟨_, rfl, wpAny_letOwnedTupleGo_enum (s := { s with heap := h', toks := tk + 1 }) ho fun h'' he' sb => ?_⟩
    have hT2 : h''.get? s.heap.objs.size = some { cls := .type "tuple", data := .seq #[.int i tk, y] } := (sb.2 _ (Nat.ne_of_gt hel)).trans hT
    have new : ObjOk X.prog X.w (upd H s.heap.objs.size (.tup [.int (i : Nat), x])) h'' s.heap.objs.size (.tup [.int (i : Nat), x]) :=
      ⟨by show 2 ≤ sizeLine; decide, [.int i tk, y], .cons ⟨_, rfl⟩ (.cons ru .nil), ⟨_, hT2, rfl, _, rfl⟩⟩
    have I1 : Inv X pins σ (upd H s.heap.objs.size (.tup [.int (i : Nat), x])) { s with heap := h'', toks := tk + 1 } :=
      I.turnedNew (ch := [e, it]) (fun b ob hb q => (sb.2 b (fun z => hb (by simp [z]))).trans (hk b ob (fun z => hb (by simp [z])) (fun z => hb (by simp [z])) q)) hf (Nat.le_refl _) new
    refine ⟨.ref s.heap.objs.size, _, I1, rfl, ⟨_, x, rfl, I.hok.fresh (Nat.le_refl _), rfl, fun ys hy => by rw [I.tuple_inj hy hq]; exact hx⟩, ⟨⟨y, ?_⟩, hst.1.at fun o q => (sb.2 it (Ne.symm hne)).trans q, hne⟩, fun b hb => ?_⟩
    · have e1 : ((i + 1 : Nat) : Int) = (i : Int) + 1 := by omega
      rw [e1]; exact he'
    · have hb' : b < s.heap.objs.size := by
        have e' : b = e ∨ b = it := by simpa using hb
        rcases e' with z | z
        · rw [z]; exact hel
        · rw [z]; exact hil
      rw [upd_ne (Nat.ne_of_lt hb')]
      exact (hf b hb).1
  done := by
    intro X hP hw hK hc i pins s σ H E I hf st hg
    subst hP hw hK
    obtain ⟨⟨old, he⟩, hit, hne⟩ := st
    obtain ⟨xs, hq, hx⟩ := hg
    obtain ⟨its, rv, p, hz⟩ := I.tuple hq
    obtain ⟨f0, f1, f2, f3, f4, f5⟩ := hf it (by simp)
    have hl := rv.length
    have hT : s.TypeIs (.ref e) "enumerate" := ⟨_, he, rfl⟩
    unfold pyNext
    refine wpAny_bind (wpAny_attempt (wpAny_callSpecial?_slot (name := Str.ofString "__next__") hT F.slot_enumerate_next
      (wpAny_call_entry F.slot_enumerate_next hT F.entry_enumerate_next ?_ (F.args_enumerate_next_1 _))))
    show wpAny _ _ (field (.ref e) 2 >>= _) _ _ _
    refine wpAny_bind (wpAny_field he rfl (x := .ref it) rfl ?_)
    refine wpAny_bind (wpAny_nextOf_tuple_end (I.ok.hd hc) hit p (by simp; omega) fun h' x he' hx' => ?_)
    obtain ⟨o, ho, hc'⟩ := hx'
    refine wpAny_bind (wpAny_isInstance (T := "StopIteration") (b := true) ⟨o, ho, hc'⟩ isSubtype_stop ?_)
    exact wpAny_pure ⟨rfl, I.turned (t' := s.toks) (fun b o hb q => he' b o hb q) f0 f1 f3 f4 f5⟩
  self := fun A i s Q E st h => let ⟨⟨_, he⟩, _⟩ := st; wpAny_pyIter_enum he h
def iEnumT (K : PySem.W.Frag) (ta : TA) : TI := fun σ H R => ta σ H fun vs H1 => ∃ a xs, vs = [.ref a] ∧ SqT K H1 a xs ∧ R (IteT K a) H1
theorem pi_enumT {X : Cx} {e : Expr} {ta : TA} {p pos tpos : Pos} {elts : List Expr} {kk : Nat} (hg : Gl X "enumerate") (hm : X.mg "enumerate" = none) (ha : PA X [e] ta) (hs : starEach [e] X.env = [(false, eval e X.env)] := by rfl) :
    PI X (.Tuple elts kk tpos) (.Call (.Name "enumerate" p) [e] [] pos) (iEnumT X.K ta) := by
  refine ⟨fun pins s σ H R I h => ?_⟩
  refine Call_ (ld_blt I hg hm boot_enumerate (PyProof.Rows.callWith_type1 (thn (ha.run pos pins s σ H _ I h) fun us s1 ⟨vs, H1, I1, r1, q1⟩ => ?_) hs rfl))
  obtain ⟨a, xs, ex, hq, q⟩ := q1
  subst ex
  cases r1 with
  | cons r rr =>
    cases rr
    cases r
    obtain ⟨its, rv, p', hz⟩ := I1.tuple hq
    refine enum_begins1 (begins_tuple a its.toArray) p' fun h' he hit hsz hk => wpAny_pyIter_enum he ?_
    have I2 : Inv X pins σ H1 { s1 with heap := h' } := I1.kept (t' := s1.toks) hk
    refine ⟨s1.heap.objs.size + 1, [s1.heap.objs.size + 1, s1.heap.objs.size], _, _, H1, rfl, I2, turn_enumT a (s1.heap.objs.size + 1) s1.heap.objs.size, ⟨⟨.none, he⟩, ⟨_, hit, rfl, rfl⟩, Nat.succ_ne_self _⟩, fun b hb => ?_, q⟩
    have e' : b = s1.heap.objs.size + 1 ∨ b = s1.heap.objs.size := by simpa using hb
    have hle : s1.heap.objs.size ≤ b := by
      rcases e' with z | z
      · rw [z]; exact Nat.le_add_right _ _
      · rw [z]; exact Nat.le_refl _
    exact I1.fpOk hle (I1.hok.fresh hle)
/-- for i, x in enumerate(tuple) -/
theorem for_enumT {K : PySem.W.Frag} {a : Addr} {xs : List V} {g : TG} {tb : TS} {D : Ends} {σ : L2.St} {H : Hp} (Pv : Nat → L2.St → Hp → Prop) (h0 : Pv 0 σ H) (hl : ∀ i σ H, i ≤ xs.length → Pv i σ H → SqT K H a xs)
    (hs : ∀ i x T σ H, xs[i]? = some x → Pv i σ H → H T = none → g (.ref T) σ (upd H T (.tup [.int (i : Nat), x])) fun σ2 H2 => tb { D with nx := Pv (i + 1), ct := Pv (i + 1), bk := D.nx } σ2 H2) (hd : ∀ σ H, Pv xs.length σ H → D.nx σ H) :
    ∃ W : Nat → Nat → L2.St → Hp → Prop, (∃ m, W 0 m σ H) ∧ ∀ i m σ H, W i m σ H →
      ((IteT K a).stop i H ∧ D.nx σ H) ∨ ((IteT K a).go i H ∧ ∃ N : L2.St → Hp → Prop, (∀ σ' H', N σ' H' → ∃ m', m' < m ∧ W (i + 1) m' σ' H') ∧ ∀ x H', (IteT K a).yld i H x H' → g x σ H' fun σ2 H2 => tb { D with nx := N, ct := N, bk := D.nx } σ2 H2) := by
  refine ⟨fun i m σ H => m = xs.length - i ∧ i ≤ xs.length ∧ Pv i σ H, ⟨xs.length, by simp, Nat.zero_le _, h0⟩, ?_⟩
  rintro i m σ H ⟨rfl, hi, p⟩
  have q := hl i σ H hi p
  by_cases hlt : i < xs.length
  · refine .inr ⟨⟨xs, xs[i], q, by simp [hlt]⟩, Pv (i + 1), fun σ' H' p' => ⟨xs.length - (i + 1), by omega, rfl, hlt, p'⟩, fun x H' y => ?_⟩
    obtain ⟨T, z, e1, e2, e3, y⟩ := y
    subst e1 e3
    exact hs i z T σ _ (y xs q) p e2
  · have e : i = xs.length := by omega
    subst e
    exact .inl ⟨⟨xs, q, Nat.le_refl _⟩, hd σ H p⟩
end RB
/-! Further rules: d.update(d2), (n, t) > (m, u), min(t), sorted of tuples. -/
namespace RB
open PySem PySem.Spec PyProof.Rows L2

/-! ### d.update(d2) -/
def rUpdate : V → List V → Hp → VK → Prop := fun x vs H Q => ∃ (a b : Addr) (kvs more : List (Key × V)), x = .ref a ∧ vs = [.ref b] ∧ a ≠ b ∧ H a = some (.dK kvs) ∧ H b = some (.dK more) ∧ kvs.length + more.length ≤ sizeLine ∧ Q .non (upd H a (.dK (mergeK kvs more)))
theorem mt_update {X : Cx} : MtR X "dict.update" rUpdate := by
  intro pins s σ H x vs v us Q I rx rv h
  obtain ⟨a, b, kvs, more, ex, ev, hab, e1, e2, hz, q⟩ := h
  subst ex
  subst ev
  obtain rfl : v = Value.ref a := rx
  obtain ⟨u, hu, ru⟩ := vals1 rv
  subst hu
  obtain rfl : u = Value.ref b := ru
  obtain ⟨z1, hd1, vs1, rel1, dd1⟩ := dk_of I.hok e1
  obtain ⟨z2, hd2, vs2, rel2, dd2⟩ := dk_of I.hok e2
  refine call_meetsIn PySem.F.slot_dict_update dd1.typeIs PySem.F.entry_dict_update (PySem.F.args_dict_update_2 _ _) (meets_dict_update (mixKind X.prog X.w) a b hab hd2) ⟨vs1, vs2, dd1, dd2, by rw [← rel1.length, ← rel2.length]; exact hz, fun h' dd' _ hs => ?_⟩
  have he : ∃ q, h'.get? a = some q := let ⟨q, _, _, hq, _⟩ := dd'; ⟨q, hq⟩
  exact ⟨.non, _, d_write (t' := s.toks) I (by rw [e1]; exact True.intro) hs he (dk_new (Nat.le_trans (length_mergeK more kvs) hz) hd1 (KV.merge rel2 rel1) dd'), rfl, q⟩

/-! ### min(t), t a tuple of ints -/
section
variable {prog : Program} {w : World} {A : Around} {E : Value → Shared → Prop} {s : Shared} {l : Addr}
theorem iter_intTup {xs : Array (Int × Tok)} {Q : Value → Shared → Prop} (hl : s.heap.IsTuple l (intItems xs))
    (h : ∀ s₂ : Shared, s₂ = { s with heap := s.heap.push { cls := .type "tuple_iterator", data := .fields #[.ref l, .int 0 0] } } →
      (s₂.heap.IsTupleIter s.heap.objs.size l 0 ∧ s₂.heap.IsTuple l (intItems xs)) → (∀ b ∈ [s.heap.objs.size, l], b < s₂.heap.objs.size) → l ≠ s.heap.objs.size → Q (.ref s.heap.objs.size) s₂) :
    wpAny (model prog w) A (pyIter (.ref l)) Q E s := by
  have hlt : l < s.heap.objs.size := by obtain ⟨_, e, _⟩ := hl; exact Heap.lt_size e
  refine wpAny_pyIter_tuple hl (h _ rfl ⟨⟨_, Heap.get?_push_size _ rfl, rfl, rfl⟩, hl.push _⟩ (fun b hb => ?_) (Nat.ne_of_lt hlt))
  show b < (s.heap.push _).objs.size
  rw [Heap.size_push]
  rcases List.mem_cons.mp hb with rfl | hb
  · exact Nat.lt_succ_self _
  · rcases List.mem_cons.mp hb with rfl | hb
    · exact Nat.lt_succ_of_lt hlt
    · cases hb
theorem old_keptT {h' : Heap} (hk : ∀ b o, b ∉ [s.heap.objs.size] → (s.heap.push { cls := .type "tuple_iterator", data := .fields #[.ref l, .int 0 0] }).get? b = some o → h'.get? b = some o) :
    ∀ b o, s.heap.get? b = some o → h'.get? b = some o := fun b o e => by
  refine hk b o (fun hm => ?_) (Heap.get?_push_of_some _ e)
  rcases List.mem_cons.mp hm with e1 | hm
  · exact absurd (e1 ▸ Heap.lt_size e) (Nat.lt_irrefl _)
  · cases hm
theorem min_intTup {xs : Array (Int × Tok)} {Q : Value → Shared → Prop} (hh : A.handled = none) (hl : s.heap.IsTuple l (intItems xs)) (hne : 0 < xs.size)
    (h : ∀ v h' tk, (intItems xs)[argBest (fun i j => decide (numAt xs i < numAt xs j)) (xs.size - 1)]? = some v → (∀ b o, s.heap.get? b = some o → h'.get? b = some o) → Q v { s with heap := h', toks := tk }) :
    wpAny (model prog w) A (call (.builtin "min") [.ref l]) Q E s := by
  refine call_min_walk (iter_intTup hl fun s₂ e st hfp hlI => ?_)
  subst e
  refine ⟨_, _, _, _, _, _, _, rfl, Walks.tuple (A := A.in1) hh _ l hlI (intItems xs), st, hfp, by simpa [intItems] using hne, CmpOf.ints_lt (numAt xs) (fun _ _ => intItems_at), fun v h' tk hP hk => ?_⟩
  exact h v h' tk (by simpa [intItems] using hP) (old_keptT hk)
theorem min_rawT {its : List Value} {ns : List Int} {Q : Value → Shared → Prop} (hh : A.handled = none) (hl : s.heap.IsTuple l its.toArray) (hi : IntsAre its ns) (hne : 0 < ns.length)
    (h : ∀ h' tk M t', (∀ b o, s.heap.get? b = some o → h'.get? b = some o) → M ∈ ns → (∀ a, a ∈ ns → M ≤ a) → Q (.int M t') { s with heap := h', toks := tk }) : wpAny (model prog w) A (call (.builtin "min") [.ref l]) Q E s := by
  obtain ⟨xs, e⟩ := hi.allInts.items
  have hn : numsOf (intItems xs).toList = ns := by rw [← e]; exact hi.numsOf
  rw [nums_intItems] at hn
  subst hn
  rw [e] at hl
  have hsz : 0 < xs.size := by simpa using hne
  refine min_intTup hh hl hsz fun v h' tk hv hk => ?_
  obtain ⟨t, rfl⟩ := intItems_at hv
  obtain ⟨h1, h2⟩ := argBest_lt (numAt xs) (xs.size - 1)
  refine h h' tk _ t hk ?_ fun a ha => ?_
  · rw [numAt_eq]; exact PySem.getD_mem (by rw [List.length_map, Array.length_toList]; omega)
  · obtain ⟨j, hj, rfl⟩ := mem_getD ha
    rw [List.length_map, Array.length_toList] at hj
    rw [← numAt_eq]; exact h2 j (by omega)
end
def rMinT (K : PySem.W.Frag) : List V → Hp → VK → Prop := fun vs H Q => ∃ (a : Addr) (ns : List Int), vs = [V.ref a] ∧ SqT K H a (ns.map V.int) ∧ 0 < ns.length ∧ ∀ m, m ∈ ns → (∀ y, y ∈ ns → m ≤ y) → Q (.int m) H
theorem cr_minT {X : Cx} (hc : X.calm = true) : CallR X (.builtin "min") (rMinT X.K) := by
  intro pins s σ H vs us Q I r h
  obtain ⟨a, ns, rfl, hs, hne, q⟩ := h
  obtain ⟨its, rv, hl, _⟩ := I.tuple hs
  rw [Vals.ref1 r]
  exact min_rawT (I.ok.hd hc) hl (Vals.ints rv) hne fun h' tk m t' hk h1 h2 => ⟨.int _, H, I.kept hk, ⟨_, rfl⟩, q m h1 h2⟩

/-! ### (n, t) > (m, u) of an int and a tuple of ints each -/
def gtI (ns ms : List Int) : Bool := Ob.lexAt (fun j => decide (ns.getD j 0 = ms.getD j 0)) (fun j => decide (ms.getD j 0 < ns.getD j 0)) (decide (ns.length > ms.length)) 0 (min ns.length ms.length)
theorem gt_tups {X : Cx} {pins : List (Addr × Obj)} {σ : L2.St} {H : Hp} {s : Shared} (A : Around) (I : Inv X pins σ H s) {a b : Addr} {ns ms : List Int} (ha : SqT X.K H a (ns.map V.int)) (hb : SqT X.K H b (ms.map V.int)) (hu : A.units < cLine) :
    Ob.RcOp .Gt A s (.ref a) (.ref b) (gtI ns ms) := by
  obtain ⟨its, r1, p1, _⟩ := I.tuple ha
  obtain ⟨its2, r2, p2, _⟩ := I.tuple hb
  have i1 : IntsAre its ns := Vals.ints r1
  have i2 : IntsAre its2 ms := Vals.ints r2
  have e1 : its.toArray.size = ns.length := by rw [List.size_toArray]; exact i1.length
  have e2 : its2.toArray.size = ms.length := by rw [List.size_toArray]; exact i2.length
  have at1 : ∀ j (h1 : j < its.toArray.size), ∃ t, its.toArray[j] = .int (ns.getD j 0) t := fun j h1 => PyProof.Rows.IntsAre.int_at i1 _ _ (by simp at h1; simp [h1])
  have at2 : ∀ j (h1 : j < its2.toArray.size), ∃ t, its2.toArray[j] = .int (ms.getD j 0) t := fun j h1 => PyProof.Rows.IntsAre.int_at i2 _ _ (by simp at h1; simp [h1])
  have R := Ob.RcOp.tuples_gt (A := A) (s := s) (e := fun j => decide (ns.getD j 0 = ms.getD j 0)) (r := fun j => decide (ms.getD j 0 < ns.getD j 0)) p1 p2 hu (fun j h1 h2 => by
    obtain ⟨t, et⟩ := at1 j h1
    obtain ⟨t', et'⟩ := at2 j h2
    rw [et, et']
    have z : (ns.getD j 0 == ms.getD j 0) = decide (ns.getD j 0 = ms.getD j 0) := by
      by_cases q : ns.getD j 0 = ms.getD j 0
      · rw [decide_eq_true q]; exact beq_iff_eq.mpr q
      · rw [decide_eq_false q]; exact beq_eq_false_iff_ne.mpr q
    rw [← z]
    exact SeqAt.EqAt.int_int _ _ _ _) (fun j h1 h2 _ => by
    obtain ⟨t, et⟩ := at1 j h1
    obtain ⟨t', et'⟩ := at2 j h2
    rw [et, et']
    exact Ob.RcOp.gt_int _ _ _ _)
  rw [e1, e2] at R
  exact R
/-- where it is False -/
def rGtN (K : PySem.W.Frag) : R2 := fun x y H Q => ∃ (p q a b : Addr) (n m : Int) (ns ms : List Int), x = .ref p ∧ y = .ref q ∧ H p = some (.tup [.int n, .ref a]) ∧ H q = some (.tup [.int m, .ref b]) ∧ Tp H a ns ∧ Tp H b ms ∧
  (n < m ∨ (n = m ∧ gtI ns ms = false)) ∧ Q (.bl false) H
theorem dp_ints {K : PySem.W.Frag} {H : Hp} : ∀ ns : List Int, DpAll K H (ns.map V.int) (ns.map PyData.int)
  | [] => .nil
  | n :: ns => .cons (.int n) (dp_ints ns)
theorem alike_ints : ∀ ns ms : List Int, PySem.W.alikeAll (ns.map PyData.int) (ms.map PyData.int) = true
  | [], _ => by simp [PySem.W.alikeAll]
  | _ :: _, [] => by simp [PySem.W.alikeAll]
  | n :: ns, m :: ms => by
    show PySem.W.alikeAll (PyData.int n :: ns.map PyData.int) (PyData.int m :: ms.map PyData.int) = true
    rw [PySem.W.alikeAll, alike_ints ns ms]
    rfl
theorem depth_ints : ∀ ns : List Int, PyData.depthAll (ns.map PyData.int) = 0
  | [] => rfl
  | n :: ns => by
    show max (PyData.depth (.int n)) (PyData.depthAll (ns.map PyData.int)) = 0
    rw [depth_ints ns]
    rfl
theorem op_gtN {X : Cx} (hu : X.A.units + 64 < cLine) : OpR X (compareOp .Gt) (rGtN X.K) := by
  intro pins s σ H x y v u Q I rx ry h
  obtain ⟨p, q, a, b, n, m, ns, ms, rfl, rfl, hp, hq, ha, hb, c, hQ⟩ := h
  obtain rfl : v = Value.ref p := rx
  obtain rfl : u = Value.ref q := ry
  obtain ⟨its, r1, p1, _⟩ := I.tuple (SqT.of hp)
  obtain ⟨its2, r2, p2, _⟩ := I.tuple (SqT.of hq)
  have u1 : X.A.in1.units = X.A.units + 1 := rfl
  cases r1 with
  | cons ra r1 =>
    cases r1 with
    | cons ra' r1 =>
      cases r1
      cases r2 with
      | cons rb r2 =>
        cases r2 with
        | cons rb' r2 =>
          cases r2
          obtain ⟨t, rfl⟩ := ra
          obtain ⟨t', rfl⟩ := rb
          cases ra'
          cases rb'
          obtain ⟨as, d1⟩ := Dp.reads I (.tuple (ns.map PyData.int)) (.ref a) (.ref a) (.tup (SqT.of ha) (dp_ints ns)) rfl
          obtain ⟨bs, d2⟩ := Dp.reads I (.tuple (ms.map PyData.int)) (.ref b) (.ref b) (.tup (SqT.of hb) (dp_ints ms)) rfl
          have E1 := PySem.W.eqAt_alike _ _ X.A.in1 s _ _ _ _ d1 d2 (by show PySem.W.alike (.tuple (ns.map PyData.int)) (.tuple (ms.map PyData.int)) = true; rw [PySem.W.alike]; exact alike_ints ns ms)
            (by rw [u1]; show X.A.units + 1 + min (PyData.depthAll (ns.map PyData.int) + 1) (PyData.depthAll (ms.map PyData.int) + 1) < cLine; rw [depth_ints, depth_ints]; omega)
          have G1 := gt_tups X.A.in1 I (SqT.of ha) (SqT.of hb) (by rw [u1]; omega)
          have R := Ob.RcOp.tuples_gt (A := X.A) (s := s) (e := fun j => if j = 0 then (n == m) else PyData.eqv (.tuple (ns.map PyData.int)) (.tuple (ms.map PyData.int))) (r := fun j => if j = 0 then decide (m < n) else gtI ns ms) p1 p2 (by omega) (fun j h1 h2 => by
            have hj : j = 0 ∨ j = 1 := by
              simp at h1
              omega
            rcases hj with rfl | rfl
            · exact SeqAt.EqAt.int_int _ _ _ _
            · exact E1) (fun j h1 h2 _ => by
            have hj : j = 0 ∨ j = 1 := by
              simp at h1
              omega
            rcases hj with rfl | rfl
            · exact Ob.RcOp.gt_int _ _ _ _
            · exact G1)
          refine R X.prog X.w X.xe _ ⟨.bl false, H, I, ?_, hQ⟩
          show Value.bool _ = Value.bool false
          congr 1
          show (if (n == m) = true then (if PyData.eqv (.tuple (ns.map PyData.int)) (.tuple (ms.map PyData.int)) = true then decide (2 > 2) else gtI ns ms) else decide (m < n)) = false
          rcases c with c | ⟨rfl, c⟩
          · rw [if_neg (by simp; omega)]
            exact decide_eq_false (by omega)
          · rw [c]
            simp
/-- by codes -/
theorem code_ts : ∀ w : Wk, code w = TS.code 8 w
  | [] => rfl
  | d :: r => by
    show d * 8 ^ r.length + code r = d * 8 ^ r.length + TS.code 8 r
    rw [code_ts r]
theorem gt_code {ns ms : List Int} (hl : ns.length = ms.length) (h1 : TS.Bd 8 ns) (h2 : TS.Bd 8 ms) : ∀ (k i : Nat), ns.length = i + k →
    Ob.lexAt (fun j => decide (ns.getD j 0 = ms.getD j 0)) (fun j => decide (ms.getD j 0 < ns.getD j 0)) false i k = true → TS.code 8 (ms.drop i) < TS.code 8 (ns.drop i)
  | 0, i, e, h => by
    rw [Ob.lexAt_zero] at h
    cases h
  | k + 1, i, e, h => by
    have l1 : i < ns.length := by omega
    have l2 : i < ms.length := by omega
    rw [Ob.lexAt_succ] at h
    have g1 : ns.getD i 0 = ns[i] := by rw [List.getD_eq_getElem?_getD, List.getElem?_eq_getElem l1]; rfl
    have g2 : ms.getD i 0 = ms[i] := by rw [List.getD_eq_getElem?_getD, List.getElem?_eq_getElem l2]; rfl
    rw [List.drop_eq_getElem_cons l1, List.drop_eq_getElem_cons l2]
    have b1 : TS.Bd 8 (ns.drop (i + 1)) := fun m hm => h1 m (List.mem_of_mem_drop hm)
    have b2 : TS.Bd 8 (ms.drop (i + 1)) := fun m hm => h2 m (List.mem_of_mem_drop hm)
    have ll : (ms.drop (i + 1)).length = (ns.drop (i + 1)).length := by rw [List.length_drop, List.length_drop, hl]
    rw [g1, g2] at h
    by_cases c : ns[i] = ms[i]
    · rw [if_pos (decide_eq_true c)] at h
      have ih := gt_code hl h1 h2 k (i + 1) (by omega) h
      rw [c]
      exact (TS.code_same ll).mpr ih
    · rw [if_neg (by simpa using c)] at h
      exact TS.code_lt ll b2 b1 (of_decide_eq_true h)
theorem gtI_false {ns ms : List Int} (hl : ns.length = ms.length) (h1 : ∀ x ∈ ns, 0 ≤ x ∧ x < 8) (h2 : ∀ x ∈ ms, 0 ≤ x ∧ x < 8) (h : code ns ≤ code ms) : gtI ns ms = false := by
  cases c : gtI ns ms with
  | false => rfl
  | true =>
    unfold gtI at c
    rw [hl, Nat.min_self, decide_eq_false (by omega)] at c
    have q := gt_code hl h1 h2 ms.length 0 (by omega) c
    rw [List.drop_zero, List.drop_zero, ← code_ts, ← code_ts] at q
    omega

/-! ### sorted(ws), ws a list of tuples of ints of one length -/
def rSortW (K : PySem.W.Frag) : List V → Hp → VK → Prop := fun vs H Q => ∃ d : Nat, 1 ≤ d ∧ rSortU K d 8 vs H Q
theorem cr_sortW {X : Cx} : CallR X (.builtin "sorted") (rSortW X.K) := by
  intro pins s σ H vs us Q I r h
  obtain ⟨d, hd, h⟩ := h
  exact cr_sortT hd pins s σ H vs us Q I r h
end RB
/-! is_path, is_walk -/
namespace RB
open PySem PySem.Spec PyProof.Rows L2
theorem Walk.chain {T : List (List Int)} {one x : Int} {w : Wk} (h : Walk T one x w) : ∀ (i : Nat) (a b : Int), w[i]? = some a → w[i + 1]? = some b → b ∈ rowAt T a := by
  induction h with
  | start =>
    intro i a b h1 h2
    simp at h2
  | @step y x w h hx ih =>
    intro i a b h1 h2
    have hl := h.len
    have hlast := h.last
    by_cases c : i + 1 < w.length
    · rw [List.getElem?_append_left (by omega)] at h1
      rw [List.getElem?_append_left c] at h2
      exact ih i a b h1 h2
    · have l2 := (List.getElem?_eq_some_iff.mp h2).1
      rw [List.length_append, List.length_singleton] at l2
      have e : i = w.length - 1 := by omega
      rw [List.getElem?_append_left (by omega), e, ← List.getLast?_eq_getElem?] at h1
      rw [List.getElem?_append_right (by omega), show i + 1 - w.length = 0 by omega] at h2
      have eb : x = b := by simpa using h2
      have ea : lastI w = a := by
        unfold lastI
        rw [List.getLastD_eq_getLast?, h1]
        rfl
      rw [← eb, ← ea, hlast]
      exact hx
section
variable {P : Program} {w : World} {K : PySem.W.Frag} {mg : Str → Option Value} {base : Heap}
/-! ### is_path(tournament, value), is_walk, where they are True -/
def spPath : Sp := fun vs H Q _ => ∃ (a v : Addr) (T : List (List Int)) (ws : Wk) (one x : Int), vs = [.ref a, .ref v] ∧ T2 H a T ∧ Tour T ∧ Tp H v ws ∧ Walk T one x ws ∧ Pl T one ∧ ws.length ≤ 30 ∧ ∀ H', Same H H' → Q (.bl true) H'
theorem scPath : FnScope ["tournament", "value", "player", "at"] ["tournament", "value"] (defScope s_is_path) := ⟨rfl, rfl, rfl, by decide +kernel, rfl, by decide +kernel, by decide +kernel⟩
theorem df_is_path (S : Stands K mg "is_path" s_is_path) (T : Tx mg) (D1 : Df P w K mg base "is_player" 1 ["value", "many"] spPlayer) : Df P w K mg base "is_path" 2 ["tournament", "value"] spPath := by
  refine df_mk S scPath (fun _ _ _ _ _ _ us hl => match us, hl with | [_, _], _ => rfl) (fun vs H Q E h => ?_) (fun f cdv A outer s H vs Q E hr h => ?_)
  · obtain ⟨a, v, M, ws, one, x, rfl, _⟩ := h
    rfl
  · obtain ⟨a, v, M, ws, one, x, rfl, hT, tour, hv, hw, p1, hlen, hQ⟩ := h
    obtain ⟨mwt, hmw⟩ := T.mw
    refine ⟨_, pss_cons (ps_if (PW.pt (pw_or (pt_not (pt_val (pe_callB call_isi (by rfl) T.isinstance (by decide +kernel) (pa_cons (pv 1) (pa_cons (pe_bltn (v := .ty "tuple") (by rfl) T.tuple (by decide +kernel) rfl) pa_nil)))))
        (pw_or1 (pt_not (pt_chain op_le op_le pe_int (pe_callB call_len_seq (by rfl) T.len PySem.boot_len (pa_cons (pv 1) pa_nil)) (pe_glob (v := .int 30) (by rfl) hmw ⟨_, rfl⟩))))))
        (pss_one (ps_ret pe_bl)) pss_nil)
      (pss_cons (ps_if (pt_not (pt_val (pe_callB (cr_all rfl) (by rfl) T.all (by decide +kernel) (pa_cons
          (pe_lc (own := [("player", 2)]) (g := gName 2) (tt := tYes) rfl scPath.nd (pi_tup (pv 1)) (blkOk_by (N := ["tournament", "value", "player", "at"]) (sc := defScope s_is_path) (by decide +kernel))
            (fun _ _ _ _ _ => pg_name (i := 2) scPath.nd rfl (Or.inl rfl)) (fun _ _ _ _ _ => pts_nil)
            (fun _ _ _ _ _ => pcall D1 hr (pa_cons (pv 2) (pa_cons (pe_callB (r := fun xs H Q => ∃ p ys, xs = [.ref p] ∧ (SqL K H p ys ∨ SqT K H p ys) ∧ Q (.int ys.length) H) call_len_seq (by rfl) T.len PySem.boot_len (pa_cons (pv 0) pa_nil)) pa_nil)))) pa_nil))))
        (pss_one (ps_ret pe_bl)) pss_nil)
      (pss_one (ps_ret (pe_callB (cr_all rfl) (by rfl) T.all (by decide +kernel) (pa_cons
          (pe_lc (own := [("at", 3)]) (g := gName 3) (tt := tYes) rfl scPath.nd (pi_range1 (by rfl) T.range (pa_cons (pe_op op_sub (pe_callB call_len_seq (by rfl) T.len PySem.boot_len (pa_cons (pv 1) pa_nil)) pe_int) pa_nil)) (blkOk_by (N := ["tournament", "value", "player", "at"]) (sc := defScope s_is_path) (by decide +kernel))
            (fun _ _ _ _ _ => pg_name (i := 3) scPath.nd rfl (Or.inl rfl)) (fun _ _ _ _ _ => pts_nil)
            (fun _ _ _ _ _ => pe_cmpR (r := rIn K false) op_in_seq (pe_ix (r := rIxT K) ix_tup (pv 1) (pe_op op_add (pv 3) pe_int) (fun _ _ => rfl)) (pe_ix (r := rIxT K) ix_tup (pv 0) (pe_ix (r := rIxT K) ix_tup (pv 1) (pv 3) (fun _ _ => rfl)) (fun _ _ => rfl)) rfl)) pa_nil))))), ?_⟩
    have hl1 := hw.len
    have hpl := (hw.pl tour p1).1
    refine ⟨_, rfl, _, _, _, _, true, rfl, .ty _, .base (.tup hv), kit_ty (by decide +kernel), true, rfl, ?_⟩
    refine iteF ?_
    refine ⟨_, rfl, v, _, rfl, .inr (SqT.of hv), _, _, rfl, rfl, _, rfl, ?_⟩
    have e1 : decide ((1 : Int) ≤ (((ws.map V.int).length : Nat) : Int)) = true := decide_eq_true (by rw [List.length_map]; omega)
    have e2 : decide ((((ws.map V.int).length : Nat) : Int) ≤ 30) = true := decide_eq_true (by rw [List.length_map]; omega)
    refine itP e1 ?_
    refine ⟨_, _, rfl, rfl, _, rfl, ?_⟩
    rw [e2]
    refine iteF ?_
    refine ⟨_, rfl, v, rfl, ⟨_, SqT.of hv⟩, fun D hD => lc_tup (K := K) (a := v) (xs := ws.map V.int) (fun i H' => Same H H' ∧ H' D = some (.lst (List.replicate i (V.bl true)))) ⟨same_new hD, upd_same⟩ (fun i H' _ p => SqT.of (p.1 _ _ hv)) ?_ ?_⟩
    · rintro i y H' hi ⟨sm, hd⟩
      rw [List.getElem?_map] at hi
      obtain ⟨z, hz, rfl⟩ := Option.map_eq_some_iff.mp hi
      have hi8 : i < ws.length := (List.getElem?_eq_some_iff.mp hz).1
      have pz := hpl z (List.mem_of_getElem? hz)
      obtain ⟨xs, g1, g2⟩ := (hT.same sm).len
      refine ⟨rfl, _, rfl, _, rfl, a, _, rfl, .inr (SqT.of g1), ?_⟩
      refine ⟨z, _, rfl, _, hd, small64 (by rw [List.length_replicate]; omega), sm.wr hD, ?_⟩
      have e : decide (0 ≤ z ∧ z < ((xs.length : Nat) : Int)) = true := decide_eq_true ⟨pz.1, by rw [g2]; exact pz.2⟩
      rw [e, upd_same, rep_snoc]
    rintro H1 ⟨sm1, hd1⟩
    refine ⟨D, List.replicate _ true, rfl, SqL.of (rep_bl ▸ hd1), true, by rw [rep_all], ?_⟩
    refine iteF ?_
    refine ⟨_, rfl, v, _, rfl, .inr (SqT.of (sm1 _ _ hv)), _, _, rfl, rfl, _, rfl, ?_, ?_, fun D2 hD2 => lc_range (lo := 0) (n := ((((ws.map V.int).length : Nat) : Int) - 1).toNat) (fun i H2 => Same H H2 ∧ H2 D2 = some (.lst (List.replicate i (V.bl true)))) ⟨sm1.new hD2, upd_same⟩ ?_ ?_⟩
    · rw [List.length_map]; omega
    · rw [List.length_map]; omega
    · rintro i H2 hi ⟨sm2, hd2⟩
      rw [List.length_map] at hi
      have h1 : i + 1 < ws.length := by omega
      have z0 : (0 : Int) + (i : Int) = (i : Int) := by omega
      have q0 : ws[i]? = some ws[i] := List.getElem?_eq_getElem (by omega)
      have q1 : ws[i + 1]? = some ws[i + 1] := List.getElem?_eq_getElem h1
      have e0 : atI (ws.map V.int) ((0 : Int) + (i : Int)) = some (.int ws[i]) := by rw [z0]; exact at_int q0
      have e1 : atI (ws.map V.int) ((0 : Int) + (i : Int) + 1) = some (.int ws[i + 1]) := by
        rw [z0]
        exact at_int (i := i + 1) q1
      have ch := hw.chain i _ _ q0 q1
      obtain ⟨xs, r, g1, g2, g3⟩ := (hT.same sm2).row (hpl _ (List.mem_of_getElem? q0))
      refine ⟨rfl, _, rfl, _, rfl, _, _, rfl, rfl, v, _, _, _, rfl, rfl, SqT.of (sm2 _ _ hv), e1, ?_⟩
      refine ⟨_, rfl, _, rfl, _, rfl, v, _, _, _, rfl, rfl, SqT.of (sm2 _ _ hv), e0, a, _, _, _, rfl, rfl, SqT.of g1, g2, ?_⟩
      refine ⟨_, _, rfl, .inr (SqT.of g3), rfl, flat_int, _, hd2, small64 (by rw [List.length_replicate]; omega), sm2.wr (sm1.free hD2), ?_⟩
      show upd H2 D2 (.lst (List.replicate i (V.bl true) ++ [V.bl (inV (.int ws[i + 1]) ((rowAt M ws[i]).map V.int))])) D2 = _
      rw [mem_int, decide_eq_true ch, upd_same, rep_snoc]
    · rintro H2 ⟨sm2, hd2⟩
      refine ⟨D2, List.replicate _ true, rfl, SqL.of (rep_bl ▸ hd2), ?_⟩
      rw [rep_all]
      exact hQ H2 sm2
theorem scWalk : FnScope ["tournament", "value"] ["tournament", "value"] (defScope s_is_walk) := ⟨rfl, rfl, rfl, by decide +kernel, rfl, by decide +kernel, by decide +kernel⟩
theorem df_is_walk (S : Stands K mg "is_walk" s_is_walk) (D1 : Df P w K mg base "check_tournament" 4 ["value"] spCheck) (D2 : Df P w K mg base "is_path" 2 ["tournament", "value"] spPath) : Df P w K mg base "is_walk" 5 ["tournament", "value"] spPath := by
  refine df_mk S scWalk (fun _ _ _ _ _ _ us hl => match us, hl with | [_, _], _ => rfl) (fun vs H Q E h => ?_) (fun f cdv A outer s H vs Q E hr h => ?_)
  · obtain ⟨a, v, M, ws, one, x, rfl, _⟩ := h
    rfl
  · obtain ⟨a, v, M, ws, one, x, rfl, hT, tour, hv, hw, p1, hlen, hQ⟩ := h
    refine ⟨_, pss_cons (ps_expr (pcall D1 hr (pa_cons (pv 0) pa_nil))) (pss_one (ps_ret (pcall (D2.mono (by decide)) hr (pa_cons (pv 0) (pa_cons (pv 1) pa_nil))))), ?_⟩
    refine ⟨_, rfl, a, M, rfl, hT, tour, fun H' sm => ?_⟩
    exact ⟨_, rfl, _, rfl, a, v, M, ws, one, x, rfl, hT.same sm, tour, sm _ _ hv, hw, p1, hlen, fun H2 sm2 => hQ H2 (sm.trans sm2)⟩
end
end RB
/-! Dicts and lists of walks. -/
namespace RB
open PySem PySem.Spec PyProof.Rows L2
/-! ### a dict from players to walks -/
abbrev KB (H : Hp) : List (Key × V) → Bst → Prop := Paired fun kv p => kv.1 = Sum.inl p.1 ∧ ∃ a, kv.2 = V.ref a ∧ Tp H a p.2
def DB (H : Hp) (d : Addr) (b : Bst) : Prop := ∃ kvs : List (Key × V), H d = some (.dK kvs) ∧ KB H kvs b
theorem KB.same {H H' : Hp} (s : Same H H') {kvs : List (Key × V)} {b : Bst} (h : KB H kvs b) : KB H' kvs b :=
  Paired.mono (fun _ _ ⟨e, a, q, t⟩ => ⟨e, a, q, s _ _ t⟩) h
theorem DB.same {H H' : Hp} (s : Same H H') {d : Addr} {b : Bst} (h : DB H d b) : DB H' d b := let ⟨kvs, e, k⟩ := h; ⟨kvs, s _ _ e, k.same s⟩
theorem paired_append {α β : Type} {F : α → β → Prop} : ∀ {l l' : List α} {m m' : List β}, Paired F l m → Paired F l' m' → Paired F (l ++ l') (m ++ m')
  | _, _, _, _, .nil, h => h
  | _, _, _, _, .cons r t, h => .cons r (paired_append t h)
theorem KB.none {H : Hp} {x : Int} : ∀ {kvs : List (Key × V)} {b : Bst}, KB H kvs b → x ∉ keys b → valV kvs (Sum.inl x) = Option.none
  | _, _, .nil, _ => valV_nil
  | kv :: kvs, p :: b, .cons r t, h => by
    have h1 : ¬ kv.1 = Sum.inl x := fun e => by
      rw [r.1] at e
      cases e
      exact h (List.mem_cons_self ..)
    rw [valV_neg h1]
    exact KB.none t fun m => h (List.mem_cons_of_mem _ m)
theorem KB.some {H : Hp} {x : Int} : ∀ {kvs : List (Key × V)} {b : Bst} {w : Wk}, KB H kvs b → (keys b).Nodup → (x, w) ∈ b → ∃ a, valV kvs (Sum.inl x) = Option.some (.ref a) ∧ Tp H a w
  | _, _, _, .nil, _, h => absurd h (by simp)
  | kv :: kvs, p :: b, w, .cons r t, hn, h => by
    have hn' : (p.1 :: keys b).Nodup := hn
    rw [List.nodup_cons] at hn'
    rcases List.mem_cons.mp h with e | h
    · obtain ⟨e1, a, e2, e3⟩ := r
      subst e
      exact ⟨a, by rw [valV_pos e1, e2], e3⟩
    · have h1 : ¬ kv.1 = Sum.inl x := fun e => by
        rw [r.1] at e
        cases e
        exact hn'.1 (mem_keys.mpr ⟨w, h⟩)
      rw [valV_neg h1]
      exact KB.some t hn'.2 h
theorem KB.isSome {H : Hp} {x : Int} {kvs : List (Key × V)} {b : Bst} (h : KB H kvs b) : (valV kvs (Sum.inl x)).isSome = decide (x ∈ keys b) := by
  by_cases c : x ∈ keys b
  · rw [decide_eq_true c]
    induction h with
    | nil => exact absurd c (by simp [keys])
    | @cons kv p kvs b r t ih =>
      by_cases e : kv.1 = Sum.inl x
      · rw [valV_pos e]
        rfl
      · rw [valV_neg e]
        refine ih ?_
        rcases List.mem_cons.mp (show x ∈ p.1 :: keys b from c) with e' | m
        · exact absurd (by rw [r.1, e']) e
        · exact m
  · rw [decide_eq_false c, h.none c]
    rfl
theorem KB.keysV {H : Hp} {kvs : List (Key × V)} {b : Bst} (h : KB H kvs b) : (kvs.map fun kv => kV kv.1) = (keys b).map V.int := by
  induction h with
  | nil => rfl
  | cons r t ih =>
    rw [List.map_cons, ih, r.1]
    rfl
theorem KB.put {H : Hp} {kvs : List (Key × V)} {b : Bst} (h : KB H kvs b) {x : Int} (hx : x ∉ keys b) {a : Addr} {w : Wk} (ha : Tp H a w) : KB H (putK kvs (Sum.inl x) (.ref a)) (b ++ [(x, w)]) := by
  rw [putK_new _ (h.none hx)]
  exact paired_append h (.cons ⟨rfl, a, rfl, ha⟩ .nil)
theorem KB.merge {H : Hp} : ∀ {more : List (Key × V)} {c : Bst} {kvs : List (Key × V)} {b : Bst}, KB H more c → KB H kvs b → (keys c).Nodup → (∀ x ∈ keys c, x ∉ keys b) → KB H (mergeK kvs more) (b ++ c)
  | _, _, kvs, b, .nil, h, _, _ => by rw [List.append_nil]; exact h
  | kv :: more, p :: c, kvs, b, .cons r t, h, hn, hd => by
    have hn' : (p.1 :: keys c).Nodup := hn
    rw [List.nodup_cons] at hn'
    obtain ⟨e1, a, e2, e3⟩ := r
    have e : mergeK kvs (kv :: more) = mergeK (putK kvs (Sum.inl p.1) (.ref a)) more := by
      show mergeK (putK kvs kv.1 kv.2) more = _
      rw [e1, e2]
    have q := KB.put h (hd p.1 (List.mem_cons_self ..)) e3
    have ih := KB.merge t q hn'.2 fun x hx m => by
      rw [keys_append] at m
      rcases List.mem_append.mp m with m | m
      · exact hd x (List.mem_cons_of_mem _ hx) m
      · have ex : x = p.1 := List.mem_singleton.mp m
        exact hn'.1 (ex ▸ hx)
    rw [e, show b ++ p :: c = (b ++ [(p.1, p.2)]) ++ c by simp]
    exact ih
/-! ### values that are walks -/
abbrev WV (H : Hp) : List V → List Wk → Prop := Paired fun v w => ∃ a, v = V.ref a ∧ Tp H a w
theorem WV.same {H H' : Hp} (s : Same H H') {vs : List V} {ws : List Wk} (h : WV H vs ws) : WV H' vs ws := Paired.mono (fun _ _ ⟨a, q, t⟩ => ⟨a, q, s _ _ t⟩) h
theorem Tp.inj {H : Hp} {a : Addr} {u v : Wk} (h1 : Tp H a u) (h2 : Tp H a v) : u = v := by
  have e : some (HO.tup (u.map V.int)) = some (.tup (v.map V.int)) := h1.symm.trans h2
  simp only [Option.some.injEq, HO.tup.injEq] at e
  exact (List.map_inj_right (f := V.int) (fun x y z => by cases z; rfl)).mp e
theorem code_inj : ∀ {u v : Wk}, u.length = v.length → TS.Bd 8 u → TS.Bd 8 v → TS.code 8 u = TS.code 8 v → u = v
  | [], [], _, _, _, _ => rfl
  | [], _ :: _, h, _, _, _ => by simp at h
  | _ :: _, [], h, _, _, _ => by simp at h
  | x :: u, y :: v, hl, h1, h2, e => by
    have hl' : u.length = v.length := by simpa using hl
    have l1 : ¬ x < y := fun c => by have := TS.code_lt hl' h1.tail h2.tail c; omega
    have l2 : ¬ y < x := fun c => by have := TS.code_lt hl'.symm h2.tail h1.tail c; omega
    have ex : x = y := by omega
    subst ex
    have l3 : ¬ TS.code 8 u < TS.code 8 v := fun c => by have := (TS.code_same (d := x) (B := 8) hl').mpr c; omega
    have l4 : ¬ TS.code 8 v < TS.code 8 u := fun c => by have := (TS.code_same (d := x) (B := 8) hl'.symm).mpr c; omega
    rw [code_inj hl' h1.tail h2.tail (by omega)]
/-- what sorted has made is the one sorted list -/
theorem sorted_is {K : PySem.W.Frag} {H : Hp} {xs ys : List V} {ws : List Wk} {d : Nat} (h : WV H xs ws) (hd : ∀ w ∈ ws, w.length = d ∧ TS.Bd 8 w) (p : ys.Perm xs)
    (hp : ys.Pairwise (fun x y => ∀ n m, TupI K H x n → TupI K H y m → TS.code 8 n ≤ TS.code 8 m)) : WV H ys (sortW ws) := by
  obtain ⟨ws', pw, q⟩ := paired_perm p.symm h
  have hs : ws'.Pairwise (fun a b => code a ≤ code b) := by
    clear pw p hd h
    induction q with
    | nil => exact .nil
    | @cons v w vs ws r t ih =>
      rw [List.pairwise_cons] at hp
      refine List.Pairwise.cons (fun u hu => ?_) (ih hp.2)
      obtain ⟨i, hi⟩ := List.getElem?_of_mem hu
      obtain ⟨v', hv', a', e', t'⟩ := paired_get t hi
      obtain ⟨a, e, tt⟩ := r
      have := hp.1 v' (List.mem_of_getElem? hv') w u ⟨a, e, SqT.of tt⟩ ⟨a', e', SqT.of t'⟩
      rw [code_ts, code_ts]
      exact this
  have e : ws' = sortW ws := List.Perm.eq_of_pairwise (le := fun a b : Wk => code a ≤ code b) (fun a b ha hb h1 h2 => by
    have da := hd a (pw.mem_iff.mp ha)
    have db := hd b ((sortW_perm ws).mem_iff.mp hb)
    rw [code_ts, code_ts] at h1 h2
    exact code_inj (da.1.trans db.1.symm) da.2 db.2 (Int.le_antisymm h1 h2)) hs (sortW_pw ws) (pw.trans (sortW_perm ws).symm)
  rw [← e]
  exact q
theorem at_last {ws : Wk} (h : ws ≠ []) : atI (ws.map V.int) (-1) = some (.int (lastI ws)) := by
  obtain ⟨u, x, rfl⟩ : ∃ u x, ws = u ++ [x] := ⟨ws.dropLast, ws.getLast h, (List.dropLast_concat_getLast h).symm⟩
  rw [List.map_append, lastI_snoc]
  exact atI_last _ _
/-! ### what a round keeps -/
def VOk (T : List (List Int)) (fr : Bst) : Prop := (keys fr).Nodup ∧ ∀ x ∈ keys fr, Pl T x
theorem VOk.nil {T : List (List Int)} : VOk T [] := ⟨List.nodup_nil, fun x h => absurd h (by simp [keys])⟩
theorem VOk.len {T : List (List Int)} {fr : Bst} (h : VOk T fr) : fr.length ≤ T.length := by
  have l := h.1.length_le_of_subset (l₂ := (List.range T.length).map fun i : Nat => (i : Int)) fun x m => by
    obtain ⟨h0, h1⟩ := h.2 x m
    exact List.mem_map.mpr ⟨x.toNat, List.mem_range.mpr (by omega), by omega⟩
  simpa [keys] using l
theorem VOk.vis {T : List (List Int)} {found fr : Bst} {r : Wk} {x : Int} (h : VOk T fr) (hx : Pl T x) : VOk T (RB.vis found r fr x) := by
  unfold RB.vis
  split
  · exact h
  · rename_i c
    have n2 : x ∉ keys fr := fun z => c (.inr z)
    refine ⟨?_, fun y m => ?_⟩
    · rw [keys_append]
      show (keys fr ++ [x]).Nodup
      rw [List.nodup_append]
      refine ⟨h.1, by simp, fun a ha b hb e => ?_⟩
      rw [List.mem_singleton] at hb
      subst e hb
      exact n2 ha
    · rw [keys_append] at m
      rcases List.mem_append.mp m with m | m
      · exact h.2 y m
      · have e : y = x := List.mem_singleton.mp m
        exact e ▸ hx
theorem VOk.fold {T : List (List Int)} {found : Bst} {r : Wk} : ∀ (l : List Int) {fr : Bst}, VOk T fr → (∀ x ∈ l, Pl T x) → VOk T (l.foldl (RB.vis found r) fr)
  | [], fr, h, _ => h
  | x :: l, fr, h, hl => VOk.fold l (h.vis (hl x (List.mem_cons_self ..))) fun y m => hl y (List.mem_cons_of_mem _ m)
theorem VOk.row {T : List (List Int)} (t : Tour T) {found fr : Bst} {r : Wk} (h : VOk T fr) : VOk T (visR T found fr r) := VOk.fold _ h fun _ m => t.beaten m
theorem VOk.rows {T : List (List Int)} (t : Tour T) {found : Bst} : ∀ (l : List Wk) {fr : Bst}, VOk T fr → VOk T (l.foldl (visR T found) fr)
  | [], fr, h => h
  | r :: l, fr, h => VOk.rows t l (h.row t)
theorem VOk.lev1 {T : List (List Int)} (t : Tour T) {one : Int} (p : Pl T one) (k : Nat) : VOk T (lev T one k).1 := by
  refine ⟨(bfs T one k).nd, fun x m => ?_⟩
  obtain ⟨w, m⟩ := mem_keys.mp m
  exact (((bfs T one k).wk x w m).1.pl t p).2
theorem VOk.lev2 {T : List (List Int)} (t : Tour T) {one : Int} (p : Pl T one) : ∀ k : Nat, VOk T (lev T one k).2
  | 0 => VOk.lev1 t p 0
  | k + 1 => VOk.rows t _ VOk.nil
/-- the players that a round finds are new -/
theorem round_new {T : List (List Int)} {one : Int} {k : Nat} : ∀ x ∈ keys (lev T one (k + 1)).2, x ∉ keys (lev T one k).1 := fun x m => by
  obtain ⟨w, m⟩ := mem_keys.mp m
  exact ((round_out (T := T) (found := (lev T one k).1) (sortW_pw (wks (lev T one k).2))).a x w m).1
theorem take_foldl {α β : Type} (f : β → α → β) (b : β) {l : List α} {i : Nat} {x : α} (h : l[i]? = some x) : (l.take (i + 1)).foldl f b = f ((l.take i).foldl f b) x := by
  rw [List.take_add_one, h, List.foldl_append]
  rfl
theorem vis_in {found fr : Bst} {r : Wk} {x : Int} (h : x ∈ keys found ∨ x ∈ keys fr) : vis found r fr x = fr := if_pos h
theorem vis_out {found fr : Bst} {r : Wk} {x : Int} (h1 : x ∉ keys found) (h2 : x ∉ keys fr) : vis found r fr x = fr ++ [(x, r ++ [x])] := if_neg fun z => z.elim h1 h2
/-! ### heaps in which another kind of thing is written -/
theorem tp_upd {H : Hp} {p a : Addr} {o o' : HO} {ns : List Int} (hp : H p = some o') (hn : ∀ xs, o' ≠ .tup xs) (h : Tp H a ns) : Tp (upd H p o) a ns := by
  show upd H p o a = _
  rw [upd_ne (ne_of h hp fun z => hn _ z.symm)]
  exact h
theorem KB.upd {H : Hp} {p : Addr} {o o' : HO} {kvs : List (Key × V)} {b : Bst} (hp : H p = Option.some o') (hn : ∀ xs, o' ≠ .tup xs) (h : KB H kvs b) : KB (L2.upd H p o) kvs b :=
  Paired.mono (fun _ _ ⟨e, a, q, t⟩ => ⟨e, a, q, tp_upd hp hn t⟩) h
theorem sqt_same {K : PySem.W.Frag} {H H' : Hp} {a : Addr} {xs : List V} (e : Same H H') (h : SqT K H a xs) : SqT K H' a xs := by
  rcases h with (h | ⟨o, h⟩) | h
  · exact .inl (.inl (e _ _ h))
  · exact .inl (.inr ⟨o, e _ _ h⟩)
  · exact .inr h
theorem tupI_same {K : PySem.W.Frag} {H H' : Hp} {x : V} {ns : List Int} (e : Same H H') (h : L2.TupI K H x ns) : L2.TupI K H' x ns := let ⟨t, q, s⟩ := h; ⟨t, q, sqt_same e s⟩
theorem pl_bd {T : List (List Int)} (t : Tour T) {w : Wk} (h : ∀ y ∈ w, Pl T y) : TS.Bd 8 w := fun m hm => by
  have := h m hm
  have := t.most
  unfold Pl at *
  omega
end RB
/-! walks_from, shortest_walk -/
namespace RB
open PySem PySem.Spec PyProof.Rows L2
section
variable {P : Program} {w : World} {K : PySem.W.Frag} {mg : Str → Option Value} {base : Heap}
def spFrom : Sp := fun vs H Q _ => ∃ (a : Addr) (T : List (List Int)) (one : Int), vs = [.ref a, .int one] ∧ T2 H a T ∧ Tour T ∧ Pl T one ∧ ∀ (H' : Hp) (d : Addr), Same H H' → DB H' d (best T one) → Q (.ref d) H'
theorem scFrom : FnScope ["tournament", "one", "found", "front", "fresh", "walk", "player"] ["tournament", "one"] (defScope s_walks_from) := ⟨rfl, rfl, rfl, by decide +kernel, rfl, by decide +kernel, by decide +kernel⟩
theorem df_walks_from (S : Stands K mg "walks_from" s_walks_from) (T : Tx mg) : Df P w K mg base "walks_from" 1 ["tournament", "one"] spFrom := by
  refine df_mk S scFrom (fun _ _ _ _ _ _ us hl => match us, hl with | [_, _], _ => rfl) (fun vs H Q E h => ?_) (fun f cdv A outer s H vs Q E hr h => ?_)
  · obtain ⟨a, M, one, rfl, _⟩ := h
    rfl
  · obtain ⟨a, M, one, rfl, hT, tour, p1, hQ⟩ := h
    have hu := hu_of hr
    refine ⟨_, pss_cons (ps_set (i := 2) scFrom.nd rfl (Or.inr rfl) (pe_disp (pps_cons (pv 1) (pe_tup (pa_cons (pv 1) pa_nil)) pps_nil) (by rfl) (by rfl) (fun z => by cases z) (by decide)))
      (pss_cons (ps_set (i := 3) scFrom.nd rfl (Or.inl rfl) (pe_lst (pa_cons (pv 1) pa_nil)))
      (pss_cons (ps_while PassesOwn.never (pt_truth (pv 3) (by intro _; rfl))
        (pss_cons (ps_set (i := 4) scFrom.nd rfl (Or.inl rfl) pe_dnewK)
        (pss_cons (ps_for PassesOwn.never rfl (pi_list (pe_callB cr_sortW (by rfl) T.sorted (by decide +kernel) (pa_cons
              (pe_lc (own := [("player", 6)]) (g := gName 6) (tt := tYes) rfl scFrom.nd (pi_list (pv 3)) (blkOk_by (N := ["tournament", "one", "found", "front", "fresh", "walk", "player"]) (sc := defScope s_walks_from) (by decide +kernel))
                (fun _ _ _ _ _ => pg_name (i := 6) scFrom.nd rfl (Or.inl rfl)) (fun _ _ _ _ _ => pts_nil)
                (fun _ _ _ _ _ => pe_dget hu (pv 2) (pv 6) (fun _ _ => rfl))) pa_nil))) (pg_name (i := 5) scFrom.nd rfl (Or.inl rfl))
          (pss_one (ps_for PassesOwn.never rfl (pi_tup (pe_ix ix_tup (pv 0) (pe_ix ix_tup (pv 5) (pe_un un_neg pe_int) (fun _ _ => rfl)) (fun _ _ => rfl))) (pg_name (i := 6) scFrom.nd rfl (Or.inl rfl))
            (pss_one (ps_if (PW.pt (pw_and (pt_cmp (pc_dnotin hu (pv 6) (pv 2))) (pw_and1 (pt_cmp (pc_dnotin hu (pv 6) (pv 4))))))
              (pss_one (ps_dput hu (pv 4) (pv 6) (pe_op op_catT (pv 5) (pe_tup (pa_cons (pv 6) pa_nil))) rfl)) pss_nil)))))
        (pss_cons (ps_expr (pe_bm PySem.F.plainAttrs_dict PySem.F.slot_dict_update PySem.F.type_dict_update mt_update (pv 2) (pa_cons (pv 4) pa_nil)))
        (pss_one (ps_set (i := 3) scFrom.nd rfl (Or.inl rfl) (pe_callTy (call_list_dK rfl) (by rfl) T.list (by decide +kernel) (pa_cons (pv 4) pa_nil))))))))
      (pss_one (ps_ret (pv 2))))), ?_⟩
    intro d hd
    refine ⟨_, rfl, _, rfl, (by show 1 ≤ sizeLine; decide), fun t ht => ?_⟩
    have nt : t ≠ d := fun q => by rw [q, upd_same] at ht; cases ht
    have ht0 : H t = none := by rw [upd_ne nt] at ht; exact ht
    refine ⟨by rw [upd_ne nt.symm]; exact upd_same, [(Sum.inl one, V.ref t)], rfl, (by show 1 ≤ 15; decide), ?_⟩
    refine ⟨_, rfl, (by show 1 ≤ sizeLine; decide), fun l hl => ?_⟩
    have nl : l ≠ d := fun q => by rw [q, upd_same] at hl; cases hl
    -- the start
    have start : ∃ (l' : Addr) (o4 o5 o6 : Option V), ([some (.ref a), some (.int one), some (.ref d), some (.ref l), none, none, none] : L2.St) = [some (.ref a), some (.int one), some (.ref d), some (.ref l'), o4, o5, o6] ∧
        Same H (upd (upd (upd (upd H d (.dK [])) t (.tup [.int one])) d (.dK (mergeK [] [(Sum.inl one, V.ref t)]))) l (.lst [.int one])) ∧
        DB (upd (upd (upd (upd H d (.dK [])) t (.tup [.int one])) d (.dK (mergeK [] [(Sum.inl one, V.ref t)]))) l (.lst [.int one])) d (lev M one 0).1 ∧
        (upd (upd (upd (upd H d (.dK [])) t (.tup [.int one])) d (.dK (mergeK [] [(Sum.inl one, V.ref t)]))) l (.lst [.int one])) l' = some (.lst ((keys (lev M one 0).2).map V.int)) := by
      have nlt : t ≠ l := fun q => by
        subst q
        rw [upd_ne nt, upd_same] at hl
        cases hl
      refine ⟨l, none, none, none, rfl, ((((same_new hd).new (by exact ht)).wr hd).new hl), ⟨[(Sum.inl one, V.ref t)], ?_, .cons ⟨rfl, t, rfl, ?_⟩ .nil⟩, upd_same⟩
      · rw [upd_ne nl.symm, upd_same]
        rfl
      · show upd _ _ _ t = _
        rw [upd_ne nlt, upd_ne nt, upd_same]
        rfl
    refine ⟨fun m σ H' => ∃ k, m + k = M.length + 1 ∧ ∃ (l : Addr) (o4 o5 o6 : Option V), σ = [some (.ref a), some (.int one), some (.ref d), some (.ref l), o4, o5, o6] ∧ Same H H' ∧ DB H' d (lev M one k).1 ∧ H' l = some (.lst ((keys (lev M one k).2).map V.int)),
      ⟨M.length + 1, 0, rfl, start⟩, ?_⟩
    rintro m σ H' ⟨k, hk, l, o4, o5, o6, rfl, sm, hDB, hL⟩
    refine ⟨_, rfl, _, .inl ⟨_, SqL.of hL, rfl⟩, ?_⟩
    by_cases ek : (lev M one k).2 = []
    · rw [ek]
      refine iteF ?_
      refine ⟨_, rfl, hQ H' d sm ?_⟩
      rw [← lev_at tour p1 ek]
      exact hDB
    · have ek' : (!((keys (lev M one k).2).map V.int).isEmpty) = true := by
        cases q : (lev M one k).2 with
        | nil => exact absurd q ek
        | cons p r => rfl
      rw [ek']
      have hkn := lev_some tour p1 ek
      refine iteT ⟨fun σ' H2 => ∃ (l : Addr) (o4 o5 o6 : Option V), σ' = [some (.ref a), some (.int one), some (.ref d), some (.ref l), o4, o5, o6] ∧ Same H H2 ∧ DB H2 d (lev M one (k + 1)).1 ∧ H2 l = some (.lst ((keys (lev M one (k + 1)).2).map V.int)),
        fun σ' H2 h => ⟨m - 1, by omega, k + 1, by omega, h⟩, ?_⟩
      obtain ⟨kvs, eD, kb⟩ := id hDB
      have B := bfs M one k
      have hT' := hT.same sm
      intro d2 hd2
      have fl := (VOk.lev2 tour p1 k).len
      have t6 := tour.most
      -- the walks of the front
      have hLa : (upd H' d2 (.dK [])) l = some (.lst ((keys (lev M one k).2).map V.int)) := by rw [upd_ne (ne_of_none hL hd2)]; exact hL
      have sm2 : Same H' (upd H' d2 (.dK [])) := same_new hd2
      refine ⟨_, rfl, l, rfl, ⟨_, SqL.of hLa⟩, fun D hD => ?_⟩
      have nD : D ≠ d2 := fun q => by rw [q, upd_same] at hD; cases hD
      have hD0 : H' D = none := sm2.free hD
      refine lc_list (K := K) (a := l) (xs := (keys (lev M one k).2).map V.int) (fun i Hc => Same H' Hc ∧ Hc d2 = some (.dK []) ∧ ∃ vs : List V, Hc D = some (.lst vs) ∧ WV H' vs ((wks (lev M one k).2).take i)) ⟨sm2.new hD, by rw [upd_ne nD.symm]; exact upd_same, [], upd_same, by rw [List.take_zero]; exact .nil⟩ (fun i Hc _ p => SqL.of (p.1 _ _ hL)) ?_ ?_
      · rintro i x Hc hi ⟨smc, hd2c, vs, hvs, wv⟩
        rw [List.getElem?_map] at hi
        obtain ⟨z, hz, rfl⟩ := Option.map_eq_some_iff.mp hi
        unfold keys at hz
        rw [List.getElem?_map] at hz
        obtain ⟨⟨z', w'⟩, hzw, rfl⟩ := Option.map_eq_some_iff.mp hz
        have hil : i < (lev M one k).2.length := (List.getElem?_eq_some_iff.mp hzw).1
        have mf := ((B.fr z' w').mp (List.mem_of_getElem? hzw)).1
        obtain ⟨aa, hv, ht⟩ := kb.some B.nd mf
        have hlen : vs.length = i := by
          rw [wv.length, List.length_take]
          simp only [wks, List.length_map]
          omega
        have hw : (wks (lev M one k).2)[i]? = some w' := by
          unfold wks
          rw [List.getElem?_map, hzw]
          rfl
        refine ⟨rfl, _, rfl, _, rfl, d, .ref aa, rfl, by rw [← hv]; exact DGet.k (k := Sum.inl z') (smc _ _ eD), vs, hvs, small64 (by omega), smc.wr hD0, by rw [upd_ne nD.symm]; exact hd2c, vs ++ [.ref aa], upd_same, ?_⟩
        rw [List.take_add_one, hw]
        exact paired_append wv (.cons ⟨aa, rfl, ht⟩ .nil)
      · rintro Hc ⟨smc, hd2c, vs, hvs, wv⟩
        have e1 : (wks (lev M one k).2).take ((keys (lev M one k).2).map V.int).length = wks (lev M one k).2 := List.take_of_length_le (by simp [keys, wks])
        rw [e1] at wv
        have wlen : vs.length = (lev M one k).2.length := by rw [wv.length]; simp [wks]
        have wok : ∀ w' ∈ wks (lev M one k).2, w'.length = k + 1 ∧ TS.Bd 8 w' := fun w' mw => by
          obtain ⟨z, mz⟩ := mem_wks.mp mw
          obtain ⟨mf, hl'⟩ := (B.fr z w').mp mz
          exact ⟨hl', pl_bd tour ((B.wk z w' mf).1.pl tour p1).1⟩
        refine ⟨k + 1, by omega, D, vs, rfl, SqL.of hvs, by omega, fun x mx => ?_, fun ys p perm pw hp => ?_⟩
        · obtain ⟨i, hi⟩ := List.getElem?_of_mem mx
          obtain ⟨w', hw', aa, rfl, ht⟩ := paired_getL wv hi
          exact ⟨w', ⟨aa, rfl, SqT.of (smc _ _ ht)⟩, wok w' (List.mem_of_getElem? hw')⟩
        have wy : WV H' ys (sortW (wks (lev M one k).2)) := sorted_is (K := K) wv wok perm (pw.imp fun {x y} h n m h1 h2 => h n m (tupI_same smc h1) (tupI_same smc h2))
        have np2 : p ≠ d2 := fun q => by rw [q, hd2c] at hp; cases hp
        have hp0 : H' p = none := smc.free hp
        refine ⟨p, rfl, ⟨_, SqL.of upd_same⟩, for_list (K := K) (a := p) (xs := ys) (fun j σ Hi => Same H' Hi ∧ Hi p = some (.lst ys) ∧ DB Hi d2 (((sortW (wks (lev M one k).2)).take j).foldl (visR M (lev M one k).1) []) ∧
          ∃ o5 o6 : Option V, σ = [some (.ref a), some (.int one), some (.ref d), some (.ref l), some (.ref d2), o5, o6]) ⟨smc.new hp, upd_same, ⟨[], by rw [upd_ne np2.symm]; exact hd2c, .nil⟩, o5, o6, rfl⟩ (fun j σ Hi _ q => SqL.of q.2.1) ?_ ?_⟩
        · rintro j x σ Hi hj ⟨smi, hpi, dbi, o5, o6, rfl⟩
          obtain ⟨wr, hwr, r, rfl, htr⟩ := paired_getL wy hj
          have mr : wr ∈ wks (lev M one k).2 := (sortW_perm _).mem_iff.mp (List.mem_of_getElem? hwr)
          obtain ⟨z, mz⟩ := mem_wks.mp mr
          have hwk := (B.wk z wr ((B.fr z wr).mp mz).1).1
          have hne : wr ≠ [] := fun q => by
            have := hwk.len
            rw [q] at this
            simp at this
          have pz : Pl M (lastI wr) := by rw [hwk.last]; exact (hwk.pl tour p1).2
          obtain ⟨xs, rw_, g1, g2, g3⟩ := (hT'.same smi).row pz
          have g3' : Tp Hi rw_ (rowAt M (lastI wr)) := g3
          refine ⟨_, rfl, _, rfl, ⟨1, rfl, r, _, _, _, rfl, rfl, SqT.of (smi _ _ htr), at_last hne, a, xs, _, _, rfl, rfl, SqT.of g1, g2, rw_, rfl, ⟨_, SqT.of g3'⟩, ?_⟩⟩
          refine for_tup (K := K) (a := rw_) (xs := (rowAt M (lastI wr)).map V.int) (fun i σ Hj => Same H' Hj ∧ Tp Hj rw_ (rowAt M (lastI wr)) ∧ Hj p = some (.lst ys) ∧ DB Hj d2 (((rowAt M (lastI wr)).take i).foldl (vis (lev M one k).1 wr) (((sortW (wks (lev M one k).2)).take j).foldl (visR M (lev M one k).1) [])) ∧
            ∃ o6 : Option V, σ = [some (.ref a), some (.int one), some (.ref d), some (.ref l), some (.ref d2), some (.ref r), o6]) ⟨smi, g3', hpi, dbi, o6, rfl⟩ (fun i σ Hj _ q => SqT.of q.2.1) ?_ ?_
          · rintro i x σ Hj hi ⟨smj, g3j, hpj, dbj, o6, rfl⟩
            rw [List.getElem?_map] at hi
            obtain ⟨y, hy, rfl⟩ := Option.map_eq_some_iff.mp hi
            have py : Pl M y := tour.beaten (List.mem_of_getElem? hy)
            have vok : VOk M (((rowAt M (lastI wr)).take i).foldl (vis (lev M one k).1 wr) (((sortW (wks (lev M one k).2)).take j).foldl (visR M (lev M one k).1) [])) :=
              VOk.fold _ (VOk.rows tour _ VOk.nil) fun u mu => tour.beaten (List.mem_of_mem_take mu)
            have step := take_foldl (vis (lev M one k).1 wr) (((sortW (wks (lev M one k).2)).take j).foldl (visR M (lev M one k).1) []) hy
            generalize hfr : ((rowAt M (lastI wr)).take i).foldl (vis (lev M one k).1 wr) (((sortW (wks (lev M one k).2)).take j).foldl (visR M (lev M one k).1) []) = fr at dbj vok step
            obtain ⟨kv2, e2, kb2⟩ := id dbj
            refine ⟨_, rfl, _, rfl, d, _, rfl, DGet.k (k := Sum.inl y) (smj _ _ eD), _, rfl, ?_⟩
            rw [kb.isSome]
            by_cases c1 : y ∈ keys (lev M one k).1
            · rw [decide_eq_true c1]
              refine iteF ?_
              refine ⟨smj, g3j, hpj, ?_, _, rfl⟩
              rw [step, vis_in (.inl c1)]
              exact dbj
            · rw [decide_eq_false c1]
              refine iteT ?_
              refine ⟨_, rfl, _, rfl, d2, _, rfl, DGet.k (k := Sum.inl y) e2, _, rfl, ?_⟩
              rw [kb2.isSome]
              by_cases c2 : y ∈ keys fr
              · rw [decide_eq_true c2]
                refine iteF ?_
                refine ⟨smj, g3j, hpj, ?_, _, rfl⟩
                rw [step, vis_in (.inr c2)]
                exact dbj
              · rw [decide_eq_false c2]
                refine iteT ?_
                have len2 := vok.len
                have wl := (wok wr mr).1
                refine ⟨_, rfl, _, rfl, (by show 1 ≤ sizeLine; decide), fun tt htt => ?_⟩
                refine ⟨r, tt, _, _, rfl, rfl, SqT.of ((same_new htt) _ _ (smj _ _ htr)), SqT.of upd_same, (by simpa using hne), Nat.le_of_lt (small64 (by rw [List.length_map, wl]; show k + 1 + 1 ≤ 64; omega)), (fun q => by cases q), fun _ q hq => ?_⟩
                have nqt : q ≠ tt := fun z => by rw [z, upd_same] at hq; cases hq
                have hq0 : Hj q = none := by rw [upd_ne nqt] at hq; exact hq
                have e2' : (upd (upd Hj tt (.tup [.int y])) q (.tup (wr.map V.int ++ [.int y]))) d2 = some (.dK kv2) := (same_new hq) _ _ ((same_new htt) _ _ e2)
                refine ⟨_, rfl, _, rfl, d2, _, rfl, DPut.k (k := Sum.inl y) e2' (small64 (by rw [kb2.length]; omega)), ?_⟩
                have hq3 : (upd (upd Hj tt (.tup [.int y])) q (.tup (wr.map V.int ++ [.int y]))) q = some (.tup ((wr ++ [y]).map V.int)) := by rw [upd_same, List.map_append]; rfl
                have nd2 : ∀ xs : List V, (HO.dK kv2) ≠ .tup xs := fun xs z => by cases z
                have smq : Same Hj (upd (upd Hj tt (.tup [.int y])) q (.tup (wr.map V.int ++ [.int y]))) := (same_new htt).new hq
                refine ⟨((smj.trans smq)).wr hd2, tp_upd e2' nd2 (smq _ _ g3j), ?_, ⟨_, upd_same, ?_⟩, _, rfl⟩
                · rw [upd_ne np2]
                  exact smq _ _ hpj
                · rw [step, vis_out c1 c2]
                  exact KB.upd e2' nd2 ((kb2.same smq).put c2 hq3)
          · rintro σ Hj ⟨smj, g3j, hpj, dbj, o6, rfl⟩
            refine ⟨smj, hpj, ?_, _, _, rfl⟩
            rw [take_foldl (visR M (lev M one k).1) [] hwr]
            have e : (rowAt M (lastI wr)).take ((rowAt M (lastI wr)).map V.int).length = rowAt M (lastI wr) := List.take_of_length_le (by simp)
            rw [e] at dbj
            exact dbj
        · rintro σ Hi ⟨smi, hpi, dbi, o5, o6, rfl⟩
          have e : (sortW (wks (lev M one k).2)).take ys.length = sortW (wks (lev M one k).2) := List.take_of_length_le (by rw [wy.length]; exact Nat.le_refl _)
          rw [e] at dbi
          have dbi : DB Hi d2 (lev M one (k + 1)).2 := dbi
          obtain ⟨kv2, e2, kb2⟩ := id dbi
          have eDi := smi _ _ eD
          have ndd : d ≠ d2 := fun q => by rw [q, hd2] at eD; cases eD
          have l1 := (VOk.lev1 tour p1 k).len
          have l2 := (VOk.lev2 tour p1 (k + 1)).len
          have kbi := kb.same smi
          refine ⟨_, rfl, .inr (.inr (.inl ⟨rfl, .inl ⟨_, eDi⟩⟩)), _, rfl, d, d2, kvs, kv2, rfl, rfl, ndd, eDi, e2, Nat.le_of_lt (small64 (by rw [kbi.length, kb2.length]; omega)), ?_⟩
          have e2' : (upd Hi d (.dK (mergeK kvs kv2))) d2 = some (.dK kv2) := by rw [upd_ne ndd.symm]; exact e2
          refine ⟨_, rfl, d2, kv2, rfl, e2', fun q hq => ?_⟩
          have nqd : q ≠ d := fun z => by rw [z, upd_same] at hq; cases hq
          have nd1 : ∀ xs : List V, (HO.dK kvs) ≠ .tup xs := fun xs z => by cases z
          refine ⟨q, _, _, _, rfl, ((sm.trans smi).wr hd).new hq, ⟨mergeK kvs kv2, ?_, ?_⟩, ?_⟩
          · rw [upd_ne nqd.symm, upd_same]
          · have kbm := KB.merge (kb2) kbi (VOk.lev2 tour p1 (k + 1)).1 round_new
            exact (KB.upd eDi nd1 kbm).same (same_new hq)
          · rw [upd_same, kb2.keysV]
/-! ### shortest_walk -/
def spShort : Sp := fun vs H Q _ => ∃ (a : Addr) (T : List (List Int)) (x y : Int), vs = [.ref a, .int x, .int y] ∧ T2 H a T ∧ Tour T ∧ Pl T x ∧ Pl T y ∧
  ∀ (H' : Hp) (v : V), Same H H' → ((y ∉ keys (best T x) ∧ v = .non) ∨ ∃ (aw : Addr) (w : Wk), v = .ref aw ∧ (y, w) ∈ best T x ∧ Tp H' aw w) → Q v H'
theorem scShort : FnScope ["tournament", "one", "other"] ["tournament", "one", "other"] (defScope s_shortest_walk) := ⟨rfl, rfl, rfl, by decide +kernel, rfl, by decide +kernel, by decide +kernel⟩
theorem df_shortest_walk (S : Stands K mg "shortest_walk" s_shortest_walk) (D1 : Df P w K mg base "check_two" 5 ["tournament", "one", "other"] spTwo) (D2 : Df P w K mg base "walks_from" 1 ["tournament", "one"] spFrom) :
    Df P w K mg base "shortest_walk" 6 ["tournament", "one", "other"] spShort := by
  refine df_mk S scShort (fun _ _ _ _ _ _ us hl => match us, hl with | [_, _, _], _ => rfl) (fun vs H Q E h => ?_) (fun f cdv A outer s H vs Q E hr h => ?_)
  · obtain ⟨a, M, x, y, rfl, _⟩ := h
    rfl
  · obtain ⟨a, M, x, y, rfl, hT, tour, px, py, hQ⟩ := h
    have hu := hu_of hr
    refine ⟨_, pss_cons (ps_expr (pcall D1 hr (pa_cons (pv 0) (pa_cons (pv 1) (pa_cons (pv 2) pa_nil)))))
      (pss_one (ps_ret (pe_dget2 hu (pcall (D2.mono (by decide)) hr (pa_cons (pv 0) (pa_cons (pv 1) pa_nil))) (pv 2) pe_non ⟨rfl, rfl, rfl, rfl⟩))), ?_⟩
    refine ⟨_, rfl, _, rfl, _, rfl, a, M, x, y, rfl, hT, tour, px, py, fun H1 sm1 => ?_⟩
    refine ⟨_, rfl, _, rfl, a, M, x, rfl, hT.same sm1, tour, px, fun H2 d sm2 db => ?_⟩
    obtain ⟨kvs, e, kb⟩ := id db
    refine ⟨d, rfl, .inl ⟨kvs, .inl e⟩, _, rfl, _, DGet.k (k := Sum.inl y) e, ?_⟩
    by_cases c : y ∈ keys (best M x)
    · obtain ⟨w', m⟩ := mem_keys.mp c
      obtain ⟨aw, hv, ht⟩ := kb.some best_nd m
      rw [hv]
      exact hQ H2 _ (sm1.trans sm2) (.inr ⟨aw, w', rfl, m, ht⟩)
    · rw [kb.none c]
      exact hQ H2 _ (sm1.trans sm2) (.inl ⟨c, rfl⟩)
end
end RB
/-! Rows that are filled edge by edge, then sorted and made tuples. -/
namespace RB
open PySem PySem.Spec PyProof.Rows L2
/-- at R a list of n lists, the rows of the edges E; all of it younger than H0 -/
structure RL (H0 H : Hp) (R : Addr) (rl : List Addr) (n : Nat) (E : List (Int × Int)) : Prop where
  at_ : H R = some (.lst (rl.map V.ref))
  len : rl.length = n
  nd : rl.Nodup
  out : R ∉ rl
  new : H0 R = none ∧ ∀ q ∈ rl, H0 q = none
  row : ∀ (p : Nat) (q : Addr), rl[p]? = some q → H q = some (.lst ((rowOf E (p : Int)).map V.int))
theorem RL.same {H0 H H' : Hp} {R : Addr} {rl : List Addr} {n : Nat} {E : List (Int × Int)} (h : RL H0 H R rl n E) (s : Same H H') : RL H0 H' R rl n E :=
  ⟨s _ _ h.at_, h.len, h.nd, h.out, h.new, fun p q e => s _ _ (h.row p q e)⟩
/-- the row of the player a -/
theorem RL.get {H0 H : Hp} {R : Addr} {rl : List Addr} {n : Nat} {E : List (Int × Int)} (h : RL H0 H R rl n E) {a : Int} (h0 : 0 ≤ a) (h1 : a < (n : Int)) :
    ∃ q, rl[a.toNat]? = some q ∧ atI (rl.map V.ref) a = some (.ref q) ∧ H q = some (.lst ((rowOf E a).map V.int)) := by
  have hl : a.toNat < rl.length := by rw [h.len]; omega
  obtain ⟨q, e⟩ : ∃ q, rl[a.toNat]? = some q := ⟨_, List.getElem?_eq_getElem hl⟩
  have ea : a = ((a.toNat : Nat) : Int) := by omega
  refine ⟨q, e, ?_, ?_⟩
  · have z := at_ref e
    rw [← ea] at z
    exact z
  · have q := h.row _ _ e
    rw [← ea] at q
    exact q
/-- rows[a].append(b) -/
theorem RL.app {H0 H : Hp} {R : Addr} {rl : List Addr} {n : Nat} {E : List (Int × Int)} (h : RL H0 H R rl n E) {a b : Int} {q : Addr} (h0 : 0 ≤ a) (hq : rl[a.toNat]? = some q) :
    RL H0 (upd H q (.lst ((rowOf E a).map V.int ++ [.int b]))) R rl n (E ++ [(a, b)]) := by
  have mq : q ∈ rl := List.mem_of_getElem? hq
  refine ⟨?_, h.len, h.nd, h.out, h.new, fun p q' e => ?_⟩
  · rw [upd_ne (fun z : R = q => h.out (by rw [z]; exact mq))]
    exact h.at_
  · rw [rowOf_snoc]
    by_cases c : a = (p : Int)
    · have ep : a.toNat = p := by omega
      rw [ep, e] at hq
      cases hq
      rw [if_pos c, upd_same, List.map_append, ← c]
      rfl
    · rw [if_neg c]
      have nq : q' ≠ q := fun z => by
        subst z
        have := nd_ix h.nd hq e
        omega
      rw [upd_ne nq]
      exact h.row p q' e
/-- one row more, empty -/
theorem RL.snoc {H0 Hc : Hp} {R q : Addr} {rl : List Addr} {i : Nat} (h : RL H0 Hc R rl i []) (s : Same H0 Hc) (hq : Hc q = none) :
    (upd Hc q (.lst [])) R = some (.lst (rl.map V.ref)) ∧ RL H0 (upd (upd Hc q (.lst [])) R (.lst (rl.map V.ref ++ [.ref q]))) R (rl ++ [q]) (i + 1) [] := by
  have nRq : R ≠ q := ne_of_none h.at_ hq
  have mn : ∀ u ∈ rl, u ≠ q := fun u hu' => by
    obtain ⟨j, hj⟩ := List.getElem?_of_mem hu'
    exact ne_of_none (h.row j u hj) hq
  refine ⟨by rw [upd_ne nRq]; exact h.at_, by rw [upd_same, List.map_append]; rfl, by rw [List.length_append, List.length_singleton, h.len], ?_, ?_, ⟨h.new.1, fun u hu' => ?_⟩, fun p u e => ?_⟩
  · rw [List.nodup_append]
    exact ⟨h.nd, by simp, fun u hu' v hv e => mn u hu' (by rw [e]; exact List.mem_singleton.mp hv)⟩
  · intro m
    rcases List.mem_append.mp m with m | m
    · exact h.out m
    · exact nRq (List.mem_singleton.mp m)
  · rcases List.mem_append.mp hu' with m | m
    · exact h.new.2 u m
    · rw [List.mem_singleton.mp m]
      exact s.free hq
  · rcases Nat.lt_or_ge p rl.length with c | c
    · rw [List.getElem?_append_left c] at e
      have mu := List.mem_of_getElem? e
      rw [upd_ne (fun z : u = R => h.out (z ▸ mu)), upd_ne (mn u mu)]
      exact h.row p u e
    · rw [List.getElem?_append_right c] at e
      have eu : q = u := by
        have hp : p - rl.length = 0 := by
          have := (List.getElem?_eq_some_iff.mp e).1
          simp at this
          omega
        rw [hp] at e
        exact Option.some.inj e
      rw [← eu, upd_ne (Ne.symm nRq), upd_same]
      rfl
theorem RL.start {H : Hp} {R : Addr} (hR : H R = none) : RL H (upd H R (.lst [])) R [] 0 [] := ⟨upd_same, rfl, .nil, by simp, ⟨hR, fun q h => absurd h (by simp)⟩, fun p q e => by simp at e⟩
theorem rowOf_len (E : List (Int × Int)) (x : Int) : (rowOf E x).length ≤ E.length := by
  unfold rowOf
  rw [List.length_map]
  exact List.length_filter_le ..
theorem prow_len (n i t : Nat) : (prow n i t).length = t := by simp [prow]
theorem prows_len {n : Nat} (hn : n ≤ 6) : ∀ i, (prows n i).length ≤ i * 6
  | 0 => by simp [prows]
  | i + 1 => by
    have ih := prows_len hn i
    rw [prows_succ, List.length_append, prow_len]
    omega
/-- the empty rows at the start -/
theorem rowOf_nil (x : Int) : rowOf [] x = [] := rfl

/-- tuple(x) of a list, tuple(x) of a tuple -/
def rTupOf (K : PySem.W.Frag) : List V → Hp → VK → Prop := fun xs H Q => ∃ p ys, xs = [.ref p] ∧ ((SqL K H p ys ∧ ∀ l, H l = none → Q (.ref l) (upd H l (.tup ys))) ∨ (SqT K H p ys ∧ Q (.ref p) H))
theorem cr_tuple {X : Cx} : CallR X (.type "tuple") (rTupOf X.K) := call_tuple_of
/-- tuple([tuple(sorted(row)) for row in rows]) -/
def tTupRows (K : PySem.W.Frag) (iR iRow : Nat) : TE := tCB (rTupOf K) (tCons (tLc (iList K (tVar iR)) (gName iRow) tYes (tCB (rTupOf K) (tCons (tCB (rSorted K) (tCons (tVar iRow) tNil)) tNil)) [iRow]) tNil)
theorem row1_append {H : Hp} {rs : List Addr} {T : List (List Int)} {r : Addr} {row : List Int} (h : Row1 H rs T) (hr : Tp H r row) : Row1 H (rs ++ [r]) (T ++ [row]) := paired_append h (.cons hr .nil)
theorem byE_take {n : Nat} {E : List (Int × Int)} {i : Nat} (h : i < n) : (byE n E).take (i + 1) = (byE n E).take i ++ [sortI (rowOf E (i : Int))] := by
  rw [List.take_add_one, byE_get h]
  rfl
theorem tup_rowsC {K : PySem.W.Frag} {H0 H : Hp} {R : Addr} {rl : List Addr} {n : Nat} {E : List (Int × Int)} {iR iRow : Nat} {σ : L2.St} {Q : VK} (h : RL H0 H R rl n E) (hn : n ≤ 6) (hE : E.length < 64) (hR : σ[iR]? = some (some (.ref R))) (hi : iRow < σ.length)
    (hQ : ∀ H' t, Same H H' → T2 H' t (byE n E) → Q (.ref t) H') : tTupRows K iR iRow σ H Q := by
  refine ⟨_, hR, R, rfl, ⟨_, SqL.of h.at_⟩, fun D hD => lc_list (K := K) (a := R) (xs := rl.map V.ref) (fun i Hc => Same H Hc ∧ ∃ rs : List Addr, Hc D = some (.lst (rs.map V.ref)) ∧ rs.length = i ∧ Row1 Hc rs ((byE n E).take i))
    ⟨same_new hD, [], upd_same, rfl, by rw [List.take_zero]; exact .nil⟩ (fun i Hc _ p => SqL.of (p.1 _ _ h.at_)) ?_ ?_⟩
  · rintro i x Hc hx ⟨sm, rs, hrs, hlen, row1⟩
    rw [List.getElem?_map] at hx
    obtain ⟨q, hq, rfl⟩ := Option.map_eq_some_iff.mp hx
    have hin : i < n := by
      have := (List.getElem?_eq_some_iff.mp hq).1
      rw [h.len] at this
      exact this
    have hrow := sm _ _ (h.row i q hq)
    have hiw : iRow < (wipe σ [iRow]).length := by rw [wipe_length]; exact hi
    refine ⟨?_, ?_⟩
    · show ((wipe σ [iRow]).set iRow _).set iRow none = wipe σ [iRow]
      rw [List.set_set]
      show ((σ.set iRow none).set iRow none) = σ.set iRow none
      rw [List.set_set]
    · refine ⟨_, List.getElem?_set_self hiw, q, rowOf E (i : Int), rfl, SqL.of hrow, Nat.lt_of_le_of_lt (rowOf_len E _) hE, fun ns' p perm pw hp => ?_⟩
      refine ⟨p, _, rfl, .inl ⟨SqL.of upd_same, fun t ht => ?_⟩⟩
      have nDp : D ≠ p := fun z => by rw [z, hp] at hrs; cases hrs
      have nDt : D ≠ t := fun z => by
        rw [← z, upd_ne nDp, hrs] at ht
        cases ht
      have smt : Same Hc (upd (upd Hc p (.lst (ns'.map V.int))) t (.tup (ns'.map V.int))) := (same_new hp).new ht
      have eD := smt _ _ hrs
      have nls : ∀ ys : List V, (HO.lst (rs.map V.ref)) ≠ .tup ys := fun ys z => by cases z
      refine ⟨_, eD, small64 (by rw [List.length_map, hlen]; omega), (sm.trans smt).wr hD, rs ++ [t], by rw [upd_same, List.map_append]; rfl, by rw [List.length_append, List.length_singleton, hlen], ?_⟩
      rw [byE_take hin, ← sortI_of perm pw]
      refine row1_append ?_ (tp_upd eD nls upd_same)
      exact Paired.mono (fun _ _ q => tp_upd eD nls (smt _ _ q)) row1
  · rintro Hc ⟨sm, rs, hrs, hlen, row1⟩
    have e : (byE n E).take (rl.map V.ref).length = byE n E := List.take_of_length_le (by rw [byE_len, List.length_map, h.len]; exact Nat.le_refl _)
    rw [e] at row1
    refine ⟨D, _, rfl, .inl ⟨SqL.of hrs, fun t ht => ?_⟩⟩
    exact hQ _ _ (sm.new ht) ⟨rs, upd_same, row1.same (same_new ht)⟩
theorem tup_rows {K : PySem.W.Frag} {H0 H : Hp} {R : Addr} {rl : List Addr} {n : Nat} {E : List (Int × Int)} {iR iRow : Nat} {σ : L2.St} {Q : VK} (h : RL H0 H R rl n E) (hn : n ≤ 6) (hE : E.length < 64) (s0 : Same H0 H) (hR : σ[iR]? = some (some (.ref R))) (hi : iRow < σ.length)
    (hQ : ∀ H' t, Same H0 H' → T2 H' t (byE n E) → Q (.ref t) H') : tTupRows K iR iRow σ H Q := tup_rowsC h hn hE hR hi fun H' t s q => hQ H' t (s0.trans s) q
end RB
/-! tournament_by -/
namespace RB
open PySem PySem.Spec PyProof.Rows L2
/-- a signed order -/
def OT (H : Hp) (a : Addr) (o : Ord) : Prop := ∃ rs : List Addr, H a = some (.tup (rs.map V.ref)) ∧ Paired (fun r (p : Int × Bool) => H r = some (.tup [V.int p.1, V.bl p.2])) rs o
theorem OT.same {H H' : Hp} (s : Same H H') {a : Addr} {o : Ord} (h : OT H a o) : OT H' a o := let ⟨rs, e, p⟩ := h; ⟨rs, s _ _ e, Paired.mono (fun _ _ q => s _ _ q) p⟩
theorem ord_at {o : Ord} {i : Nat} (h : i < o.length) : o[i]? = some (plr o i, sgn o i) := by
  unfold plr sgn
  rw [List.getD_eq_getElem?_getD, List.getElem?_eq_getElem h]
  rfl
theorem OT.get {H : Hp} {o : Ord} {rs : List Addr} (p : Paired (fun r (p : Int × Bool) => H r = some (.tup [V.int p.1, V.bl p.2])) rs o) {i : Nat} {r : Addr} (h : rs[i]? = some r) :
    i < o.length ∧ H r = some (.tup [V.int (plr o i), V.bl (sgn o i)]) := by
  obtain ⟨q, hq, e⟩ := paired_getL p h
  have hl := (List.getElem?_eq_some_iff.mp hq).1
  rw [ord_at hl] at hq
  cases hq
  exact ⟨hl, e⟩
/-- t[i + 1:] -/
theorem cut_from {xs : List V} {i : Nat} : cutV xs (some ((i : Int) + 1)) none = xs.drop (i + 1) := by
  unfold cutV
  rw [show ((i : Int) + 1) = ((i + 1 : Nat) : Int) by omega, HT.sIx_nat, HT.sIx_none]
  rcases Nat.le_total (i + 1) xs.length with c | c
  · rw [Nat.min_eq_left c]
    exact List.take_of_length_le (by rw [List.length_drop]; exact Nat.le_refl _)
  · rw [Nat.min_eq_right c, List.drop_of_length_le (Nat.le_refl _), List.drop_of_length_le c]
    simp
theorem cut_part {xs : List V} {i : Nat} (h : i < xs.length) : ¬ (HT.sIx xs.length 0 (some ((i : Int) + 1)) = 0 ∧ HT.sIx xs.length xs.length none = xs.length) := by
  rintro ⟨z, _⟩
  rw [show ((i : Int) + 1) = ((i + 1 : Nat) : Int) by omega, HT.sIx_nat] at z
  omega
section
variable {P : Program} {w : World} {K : PySem.W.Frag} {mg : Str → Option Value} {base : Heap}
def spBy : Sp := fun vs H Q _ => ∃ (a : Addr) (o : Ord), vs = [.ref a] ∧ OT H a o ∧ Good o ∧ 1 ≤ o.length ∧ o.length ≤ 6 ∧ ∀ (H' : Hp) (t : Addr), Same H H' → T2 H' t (byE o.length (edges o)) → Q (.ref t) H'
theorem scBy : FnScope ["order", "rows", "at", "player", "itself", "other", "alike", "entry", "row"] ["order"] (defScope s_tournament_by) := ⟨rfl, rfl, rfl, by decide +kernel, rfl, by decide +kernel, by decide +kernel⟩
theorem df_tournament_by (S : Stands K mg "tournament_by" s_tournament_by) (T : Tx mg) : Df P w K mg base "tournament_by" 1 ["order"] spBy := by
  refine df_mk S scBy (fun _ _ _ _ _ _ us hl => match us, hl with | [_], _ => rfl) (fun vs H Q E h => ?_) (fun f cdv A outer s H vs Q E hr h => ?_)
  · obtain ⟨a, o, rfl, _⟩ := h
    rfl
  · obtain ⟨a, o, rfl, hO, good, h1, h6, hQ⟩ := h
    have hu := hu_of hr
    obtain ⟨rs, hrs, prs⟩ := id hO
    have rsl : rs.length = o.length := prs.length
    refine ⟨_, pss_cons (ps_setLc (i := 1) (own := [("entry", 7)]) (g := gName 7) (tt := tYes) rfl scBy.nd rfl rfl (sw_true rfl rfl rfl (by decide +kernel)) (pi_tup (pv 0)) (blkOk_by (N := ["order", "rows", "at", "player", "itself", "other", "alike", "entry", "row"]) (sc := defScope s_tournament_by) (by decide +kernel))
        (fun _ _ _ _ _ => pg_name (i := 7) scBy.nd rfl (Or.inl rfl)) (fun _ _ _ _ _ => pts_nil) (fun _ _ _ _ _ => pe_lst pa_nil))
      (pss_cons (ps_for PassesOwn.never rfl (pi_enumT (by rfl) T.enumerate (pa_cons (pv 0) pa_nil)) (pg_tup rfl (pgs_cons (pg_name (i := 2) scBy.nd rfl (Or.inl rfl)) (pgs_cons (pg_tup rfl (pgs_cons (pg_name (i := 3) scBy.nd rfl (Or.inl rfl)) (pgs_cons (pg_name (i := 4) scBy.nd rfl (Or.inl rfl)) pgs_nil))) pgs_nil)))
        (pss_one (ps_for PassesOwn.never rfl (pi_tup (pe_slice sl_tup (pv 0) (po_some (pe_op op_add (pv 2) pe_int)) po_none)) (pg_tup rfl (pgs_cons (pg_name (i := 5) scBy.nd rfl (Or.inl rfl)) (pgs_cons (pg_name (i := 6) scBy.nd rfl (Or.inl rfl)) pgs_nil)))
          (pss_one (ps_if (pt_cmpR op_eq (pv 4) (pv 6) (nomark _))
            (pss_one (ps_expr (pe_bm PySem.F.plainAttrs_list PySem.F.slot_list_append PySem.F.type_list_append mt_append (pe_ix ix_list (pv 1) (pv 3) (fun _ _ => rfl)) (pa_cons (pv 5) pa_nil))))
            (pss_one (ps_expr (pe_bm PySem.F.plainAttrs_list PySem.F.slot_list_append PySem.F.type_list_append mt_append (pe_ix ix_list (pv 1) (pv 5) (fun _ _ => rfl)) (pa_cons (pv 3) pa_nil)))))))))
      (pss_one (ps_ret (pe_callTy cr_tuple (by rfl) T.tuple (by decide +kernel) (pa_cons
        (pe_lc (own := [("row", 8)]) (g := gName 8) (tt := tYes) rfl scBy.nd (pi_list (pv 1)) (blkOk_by (N := ["order", "rows", "at", "player", "itself", "other", "alike", "entry", "row"]) (sc := defScope s_tournament_by) (by decide +kernel))
          (fun _ _ _ _ _ => pg_name (i := 8) scBy.nd rfl (Or.inl rfl)) (fun _ _ _ _ _ => pts_nil)
          (fun _ _ _ _ _ => pe_callTy (r := rTupOf K) cr_tuple (by rfl) T.tuple (by decide +kernel) (pa_cons (pe_callB (r := rSorted K) cr_sorted (by rfl) T.sorted (by decide +kernel) (pa_cons (pv 8) pa_nil)) pa_nil))) pa_nil))))), ?_⟩
    -- the empty rows
    refine ⟨_, rfl, a, rfl, ⟨_, SqT.of hrs⟩, fun R hR => lc_tup (K := K) (a := a) (xs := rs.map V.ref) (fun i Hc => Same H Hc ∧ ∃ rl : List Addr, RL H Hc R rl i []) ⟨same_new hR, [], RL.start hR⟩ (fun i Hc _ p => SqT.of (p.1 _ _ hrs)) ?_ ?_⟩
    · rintro i x Hc hx ⟨sm, rl, hRL⟩
      have hil : i < o.length := by
        have := (List.getElem?_eq_some_iff.mp hx).1
        rw [List.length_map, rsl] at this
        exact this
      refine ⟨rfl, (by show 0 ≤ sizeLine; decide), fun q hq => ?_⟩
      obtain ⟨e1, e2⟩ := hRL.snoc sm hq
      exact ⟨_, e1, small64 (by rw [List.length_map, hRL.len]; omega), (sm.new hq).wr hR, _, e2⟩
    · rintro H1 ⟨sm1, rl, hRL⟩
      rw [List.length_map, rsl] at hRL
      refine ⟨_, rfl, a, _, rfl, SqT.of (sm1 _ _ hrs), for_enumT (K := K) (a := a) (xs := rs.map V.ref) (fun i σ H' => Same H H' ∧ RL H H' R rl o.length ((prows o.length i).map (edge o)) ∧ ∃ o2 o3 o4 o5 o6 : Option V, σ = [some (.ref a), some (.ref R), o2, o3, o4, o5, o6, none, none])
        ⟨sm1, hRL, none, none, none, none, none, rfl⟩ (fun i σ H' _ p => SqT.of (p.1 _ _ hrs)) ?_ ?_⟩
      · rintro i x T σ H' hx ⟨sm, hRL, o2, o3, o4, o5, o6, rfl⟩ hT
        rw [List.getElem?_map] at hx
        obtain ⟨r, hr', rfl⟩ := Option.map_eq_some_iff.mp hx
        obtain ⟨hi, er⟩ := OT.get prs hr'
        have smT : Same H (upd H' T (.tup [.int (i : Nat), .ref r])) := sm.new hT
        refine ⟨T, _, rfl, SqT.of upd_same, rfl, _, _, rfl, _, _, rfl, r, _, rfl, SqT.of (smT _ _ er), rfl, _, _, rfl, _, _, rfl, rfl, rfl, ?_⟩
        refine ⟨_, rfl, _, rfl, _, _, rfl, rfl, _, rfl, a, _, rfl, SqT.of (smT _ _ hrs), cut_part (by rw [List.length_map]; omega), fun s2 hs2 => ⟨s2, rfl, ⟨_, SqT.of upd_same⟩, ?_⟩⟩
        rw [cut_from]
        refine for_tup (K := K) (a := s2) (xs := (rs.map V.ref).drop (i + 1)) (fun t σ Hj => Same H Hj ∧ Hj s2 = some (.tup ((rs.map V.ref).drop (i + 1))) ∧ RL H Hj R rl o.length ((prows o.length i ++ prow o.length i t).map (edge o)) ∧
            ∃ o5 o6 : Option V, σ = [some (.ref a), some (.ref R), some (.int (i : Nat)), some (.int (plr o i)), some (.bl (sgn o i)), o5, o6, none, none])
          ⟨smT.new hs2, upd_same, ?_, _, _, rfl⟩ (fun t σ Hj _ p => SqT.of p.2.1) ?_ ?_
        · have e0 : prows o.length i ++ prow o.length i 0 = prows o.length i := by simp [prow]
          rw [e0]
          exact (hRL.same (same_new hT)).same (same_new hs2)
        · rintro t x σ Hj hx ⟨smj, es2, hRLj, o5, o6, rfl⟩
          rw [List.getElem?_drop, List.getElem?_map] at hx
          obtain ⟨r', hr2, rfl⟩ := Option.map_eq_some_iff.mp hx
          obtain ⟨hj, er'⟩ := OT.get prs hr2
          refine ⟨r', _, rfl, SqT.of (smj _ _ er'), rfl, _, _, rfl, _, _, rfl, rfl, ?_⟩
          have nls : ∀ {xs ys : List V}, (HO.tup xs) ≠ .lst ys := fun z => by cases z
          have pi := good.inn hi
          have pj := good.inn hj
          have lE : ((prows o.length i ++ prow o.length i t).map (edge o)).length < 64 := by
            have := prows_len h6 i
            rw [List.length_map, List.length_append, prow_len]
            omega
          have stepE : (prows o.length i ++ prow o.length i (t + 1)).map (edge o) = (prows o.length i ++ prow o.length i t).map (edge o) ++ [edge o (i, i + 1 + t)] := by
            rw [prow_succ, ← List.append_assoc, List.map_append]
            rfl
          refine ⟨_, rfl, _, rfl, rfl, _, rfl, ite2 (fun c => ?_) (fun c => ?_)⟩
          · have c : sgn o i = sgn o (i + 1 + t) := by simpa using c
            obtain ⟨q, hq, ha, hrow⟩ := hRLj.get pi.1 pi.2
            refine ⟨_, rfl, _, rfl, R, _, _, _, rfl, rfl, SqL.of hRLj.at_, ha, .inl ⟨rfl, _, SqL.of hrow⟩, _, rfl, q, _, _, rfl, rfl, hrow, small64 (by have := rowOf_len ((prows o.length i ++ prow o.length i t).map (edge o)) (plr o i); rw [List.length_map]; omega), ?_⟩
            refine ⟨smj.wr (hRLj.new.2 q (List.mem_of_getElem? hq)), by rw [upd_ne (ne_of es2 hrow nls)]; exact es2, ?_, _, _, rfl⟩
            rw [stepE, show edge o (i, i + 1 + t) = (plr o i, plr o (i + 1 + t)) from if_pos c]
            exact hRLj.app pi.1 hq
          · have c : ¬ sgn o i = sgn o (i + 1 + t) := by simpa using c
            obtain ⟨q, hq, ha, hrow⟩ := hRLj.get pj.1 pj.2
            refine ⟨_, rfl, _, rfl, R, _, _, _, rfl, rfl, SqL.of hRLj.at_, ha, .inl ⟨rfl, _, SqL.of hrow⟩, _, rfl, q, _, _, rfl, rfl, hrow, small64 (by have := rowOf_len ((prows o.length i ++ prow o.length i t).map (edge o)) (plr o (i + 1 + t)); rw [List.length_map]; omega), ?_⟩
            refine ⟨smj.wr (hRLj.new.2 q (List.mem_of_getElem? hq)), by rw [upd_ne (ne_of es2 hrow nls)]; exact es2, ?_, _, _, rfl⟩
            rw [stepE, show edge o (i, i + 1 + t) = (plr o (i + 1 + t), plr o i) from if_neg c]
            exact hRLj.app pj.1 hq
        · rintro σ Hj ⟨smj, es2, hRLj, o5, o6, rfl⟩
          have e : ((rs.map V.ref).drop (i + 1)).length = o.length - (i + 1) := by rw [List.length_drop, List.length_map, rsl]
          rw [e, ← prows_succ] at hRLj
          exact ⟨smj, hRLj, _, _, _, _, _, rfl⟩
      · rintro σ H' ⟨sm, hRL, o2, o3, o4, o5, o6, rfl⟩
        rw [List.length_map, rsl] at hRL
        have lE : ((prows o.length o.length).map (edge o)).length < 64 := by
          have := prows_len h6 o.length
          rw [List.length_map]
          omega
        exact tup_rows (iR := 1) (iRow := 8) hRL h6 lE sm rfl (by show 8 < 9; decide) hQ
end
end RB
/-! order_of, told_order -/
namespace RB
open PySem PySem.Spec PyProof.Rows L2
/-! ### tournaments as data -/
def dTI (ns : List Int) : PyData := .tuple (ns.map PyData.int)
def dTT (T : List (List Int)) : PyData := .tuple (T.map dTI)
theorem dp_rows {K : PySem.W.Frag} {H : Hp} {rs : List Addr} {T : List (List Int)} (h : Row1 H rs T) : DpAll K H (rs.map V.ref) (T.map dTI) := by
  induction h with
  | nil => exact .nil
  | cons r t ih => exact .cons (.tup (SqT.of r) (dp_ints _)) ih
theorem T2.dp {K : PySem.W.Frag} {H : Hp} {a : Addr} {T : List (List Int)} (h : T2 H a T) : Dp K H (.ref a) (dTT T) := by
  obtain ⟨rs, e, p⟩ := h
  exact .tup (SqT.of e) (dp_rows p)
theorem lay_ints : ∀ ns : List Int, PyData.canLayAll0 (ns.map PyData.int) = true
  | [] => rfl
  | n :: ns => by
    show (PyData.canLay0 (.int n) && PyData.canLayAll0 (ns.map PyData.int)) = true
    rw [lay_ints ns]
    rfl
theorem shaped_ti (ns : List Int) : SeqAt.shaped (dTI ns) = true := by
  unfold SeqAt.shaped
  have e1 : (dTI ns).canLay0 = true := lay_ints ns
  have e2 : (dTI ns).depth = 1 := by
    show PyData.depthAll (ns.map PyData.int) + 1 = 1
    rw [depth_ints]
  rw [e1, e2]
  rfl
theorem lay_rows : ∀ T : List (List Int), PyData.canLayAll0 (T.map dTI) = true ∧ PyData.depthAll (T.map dTI) ≤ 1
  | [] => ⟨rfl, by show 0 ≤ 1; decide⟩
  | r :: T => by
    obtain ⟨h1, h2⟩ := lay_rows T
    have e2 : (dTI r).depth = 1 := by
      show PyData.depthAll (r.map PyData.int) + 1 = 1
      rw [depth_ints]
    refine ⟨?_, ?_⟩
    · show (PyData.canLay0 (dTI r) && PyData.canLayAll0 (T.map dTI)) = true
      rw [h1, show PyData.canLay0 (dTI r) = true from lay_ints r]
      rfl
    · show max (PyData.depth (dTI r)) (PyData.depthAll (T.map dTI)) ≤ 1
      rw [e2]
      omega
theorem shaped_tt (T : List (List Int)) : SeqAt.shaped (dTT T) = true := by
  obtain ⟨h1, h2⟩ := lay_rows T
  unfold SeqAt.shaped
  have e1 : (dTT T).canLay0 = true := h1
  have e2 : decide ((dTT T).depth ≤ 64) = true := decide_eq_true (by show PyData.depthAll (T.map dTI) + 1 ≤ 64; omega)
  rw [e1, e2]
  rfl
theorem eqv_ints : ∀ {u v : List Int}, PyData.eqvAll (u.map PyData.int) (v.map PyData.int) = true → u = v
  | [], [], _ => rfl
  | [], _ :: _, h => by cases h
  | _ :: _, [], h => by cases h
  | x :: u, y :: v, h => by
    have h : (PyData.eqv (.int x) (.int y) && PyData.eqvAll (u.map PyData.int) (v.map PyData.int)) = true := by
      rw [← PySem.W.eqv_all_cons]
      exact h
    rw [Bool.and_eq_true] at h
    have e : (x == y) = true := by
      have := h.1
      rw [PyData.eqv] at this
      exact this
    rw [eqv_ints h.2, eq_of_beq e]
theorem eqv_ti {u v : List Int} (h : PyData.eqv (dTI u) (dTI v) = true) : u = v := by
  unfold dTI at h
  rw [PyData.eqv] at h
  exact eqv_ints h
theorem eqv_rows : ∀ {S T : List (List Int)}, PyData.eqvAll (S.map dTI) (T.map dTI) = true → S = T
  | [], [], _ => rfl
  | [], _ :: _, h => by cases h
  | _ :: _, [], h => by cases h
  | x :: u, y :: v, h => by
    have h : (PyData.eqv (dTI x) (dTI y) && PyData.eqvAll (u.map dTI) (v.map dTI)) = true := by
      rw [← PySem.W.eqv_all_cons]
      exact h
    rw [Bool.and_eq_true] at h
    rw [eqv_rows h.2, eqv_ti h.1]
theorem eqv_tt {S T : List (List Int)} (h : PyData.eqv (dTT S) (dTT T) = true) : S = T := by
  unfold dTT at h
  rw [PyData.eqv] at h
  exact eqv_rows h
/-! ### all players once -/
theorem good_cons {o' : Ord} {n : Nat} (h : (o'.map (·.1)).Perm ((List.range n).map fun k : Nat => (1 : Int) + (k : Int))) : Good ((0, true) :: o') := by
  have l : o'.length = n := by
    have := h.length_eq
    simpa using this
  unfold Good
  rw [List.map_cons, List.length_cons, l, List.range_succ_eq_map, List.map_cons, List.map_map]
  refine List.Perm.cons _ (h.trans (List.Perm.of_eq ?_))
  refine List.map_congr_left fun k _ => ?_
  show (1 : Int) + (k : Int) = ((k + 1 : Nat) : Int)
  omega
theorem paired_refs {β : Type} {F : Addr → β → Prop} {G : V → β → Prop} (h : ∀ r j, F r j → G (V.ref r) j) : ∀ {ts : List Addr} {js : List β}, Paired F ts js → Paired G (ts.map V.ref) js
  | _, _, .nil => .nil
  | _, _, .cons r t => .cons (h _ _ r) (paired_refs h t)
theorem at_bl {S : List Bool} {i : Int} (h0 : 0 ≤ i) (h1 : i < (S.length : Int)) : ∃ b, atI (S.map V.bl) i = some (.bl b) := by
  have hl : i.toNat < S.length := by omega
  refine ⟨S[i.toNat], ?_⟩
  have e : atI (S.map V.bl) ((i.toNat : Nat) : Int) = some (.bl S[i.toNat]) := atI_nat (by rw [List.getElem?_map, List.getElem?_eq_getElem hl]; rfl)
  rw [show ((i.toNat : Nat) : Int) = i by omega] at e
  exact e
section
variable {P : Program} {w : World} {K : PySem.W.Frag} {mg : Str → Option Value} {base : Heap}
def spOrd : Sp := fun vs H Q _ => ∃ (a : Addr) (T : List (List Int)), vs = [.ref a] ∧ T2 H a T ∧ Tour T ∧
  ∀ (H' : Hp) (v : V), Same H H' → (v = .non ∨ ∃ (p : Addr) (o : Ord), v = .ref p ∧ Good o ∧ o.length = T.length ∧ T = byE o.length (edges o)) → Q v H'
abbrev nOrd : List Str := ["tournament", "many", "signs", "places", "player", "others", "ahead", "order", "other", "before"]
theorem scOrd : FnScope nOrd ["tournament"] (defScope s_order_of) := ⟨rfl, rfl, rfl, by decide +kernel, rfl, by decide +kernel, by decide +kernel⟩
theorem df_order_of (S : Stands K mg "order_of" s_order_of) (T : Tx mg) (D1 : Df P w K mg base "beats" 1 ["tournament", "one", "other"] spBeats) (D2 : Df P w K mg base "tournament_by" 1 ["order"] spBy) :
    Df P w K mg base "order_of" 2 ["tournament"] spOrd := by
  refine df_mk S scOrd (fun _ _ _ _ _ _ us hl => match us, hl with | [_], _ => rfl) (fun vs H Q E h => ?_) (fun f cdv A outer s H vs Q E hr h => ?_)
  · obtain ⟨a, M, rfl, _⟩ := h
    rfl
  · obtain ⟨a, M, rfl, hT, tour, hQ⟩ := h
    have hu := hu_of hr
    obtain ⟨rs, hrs, prs⟩ := id hT
    have rsl : rs.length = M.length := prs.length
    refine ⟨_, pss_cons (ps_set (i := 1) scOrd.nd rfl (Or.inl rfl) (pe_callB call_len_seq (by rfl) T.len PySem.boot_len (pa_cons (pv 0) pa_nil)))
      (pss_cons (ps_set (i := 2) scOrd.nd rfl (Or.inr rfl) (pe_lc (own := [("player", 4)]) (g := gName 4) (tt := tYes) rfl scOrd.nd (pi_range1 (by rfl) T.range (pa_cons (pv 1) pa_nil)) (blkOk_by (N := nOrd) (sc := defScope s_order_of) (by decide +kernel))
        (fun _ _ _ _ _ => pg_name (i := 4) scOrd.nd rfl (Or.inl rfl)) (fun _ _ _ _ _ => pts_nil)
        (fun _ _ _ _ _ => pe_or (pe_cmpR op_eq (pv 4) pe_int (nomark _)) (pe_one (pcall D1 hr (pa_cons (pv 0) (pa_cons pe_int (pa_cons (pv 4) pa_nil))))))))
      (pss_cons (ps_set (i := 3) scOrd.nd rfl (Or.inl rfl) (pe_lst pa_nil))
      (pss_cons (ps_for PassesOwn.never rfl (pi_range2 (by rfl) T.range (pa_cons pe_int (pa_cons (pv 1) pa_nil))) (pg_name (i := 4) scOrd.nd rfl (Or.inr rfl))
        (pss_cons (ps_setLc (i := 5) (own := [("other", 8)]) (g := gName 8) rfl scOrd.nd rfl rfl (sw_true rfl rfl rfl (by decide +kernel)) (pi_range2 (by rfl) T.range (pa_cons pe_int (pa_cons (pv 1) pa_nil))) (blkOk_by (N := nOrd) (sc := defScope s_order_of) (by decide +kernel))
          (fun _ _ _ _ _ => pg_name (i := 8) scOrd.nd rfl (Or.inl rfl)) (fun _ _ _ _ _ => pts_one (pt_cmpR op_ne (pv 8) (pv 4) (nomark _))) (fun _ _ _ _ _ => pv 8))
        (pss_cons (ps_setLc (i := 6) (own := [("other", 8)]) (g := gName 8) rfl scOrd.nd rfl rfl (sw_true rfl rfl rfl (by decide +kernel)) (pi_list (pv 5)) (blkOk_by (N := nOrd) (sc := defScope s_order_of) (by decide +kernel))
          (fun _ _ _ _ _ => pg_name (i := 8) scOrd.nd rfl (Or.inl rfl)) (fun _ _ _ _ _ => pts_one (pt_cmpR op_eq (pcall D1 hr (pa_cons (pv 0) (pa_cons (pv 4) (pa_cons (pv 8) pa_nil)))) (pe_cmpR op_eq (pe_ix (r := rIxL K) ix_list (pv 2) (pv 4) (fun _ _ => rfl)) (pe_ix (r := rIxL K) ix_list (pv 2) (pv 8) (fun _ _ => rfl)) (nomark _)) (nomark _))) (fun _ _ _ _ _ => pv 8))
        (pss_one (ps_expr (pe_bm PySem.F.plainAttrs_list PySem.F.slot_list_append PySem.F.type_list_append mt_append (pv 3) (pa_cons (pe_tup (pa_cons (pe_op op_sub (pe_callB call_len_seq (by rfl) T.len PySem.boot_len (pa_cons (pv 5) pa_nil)) (pe_callB call_len_seq (by rfl) T.len PySem.boot_len (pa_cons (pv 6) pa_nil))) (pa_cons (pv 4) pa_nil))) pa_nil)))))))
      (pss_cons (ps_set (i := 7) scOrd.nd rfl (Or.inl rfl) (pe_op op_catT (pe_tup (pa_cons (pe_tup (pa_cons pe_int (pa_cons pe_bl pa_nil))) pa_nil)) (pe_callTy cr_tuple (by rfl) T.tuple (by decide +kernel) (pa_cons
        (pe_lc (own := [("before", 9), ("player", 4)]) (g := gTup K 2 (gCons (gName 9) (gCons (gName 4) gNil))) (tt := tYes) rfl scOrd.nd (pi_list (pe_callB cr_sortedP (by rfl) T.sorted (by decide +kernel) (pa_cons (pv 3) pa_nil))) (blkOk_by (N := nOrd) (sc := defScope s_order_of) (by decide +kernel))
          (fun _ _ _ _ _ => pg_tup rfl (pgs_cons (pg_name (i := 9) scOrd.nd rfl (Or.inl rfl)) (pgs_cons (pg_name (i := 4) scOrd.nd rfl (Or.inl rfl)) pgs_nil))) (fun _ _ _ _ _ => pts_nil)
          (fun _ _ _ _ _ => pe_tup (pa_cons (pv 4) (pa_cons (pe_ix (r := rIxL K) ix_list (pv 2) (pv 4) (fun _ _ => rfl)) pa_nil)))) pa_nil))))
      (pss_one (ps_ret (pe_ifExp (pt_cmpR (op_eqD hr.units) (pcall (D2.mono (by decide)) hr (pa_cons (pv 7) pa_nil)) (pv 0) (nomark _)) (pv 7) pe_non))))))), ?_⟩
    have t1 := tour.pos
    have t6 := tour.most
    refine ⟨_, rfl, a, _, rfl, .inr (SqT.of hrs), ?_⟩
    rw [List.length_map, rsl]
    -- the signs
    refine ⟨_, rfl, _, rfl, (by omega), (by omega), fun sg hsg => lc_range (lo := 0) (n := ((M.length : Nat) : Int).toNat) (fun i Hc => Same H Hc ∧ ∃ S : List Bool, S.length = i ∧ Hc sg = some (.lst (S.map V.bl))) ⟨same_new hsg, [], rfl, upd_same⟩ ?_ ?_⟩
    · rintro i Hc hi ⟨sm, S, lS, hS⟩
      refine ⟨rfl, _, rfl, rfl, _, rfl, ite2 (fun c => ?_) (fun c => ?_)⟩
      · refine ⟨_, hS, small64 (by rw [List.length_map]; omega), sm.wr hsg, S ++ [true], by rw [List.length_append, lS]; rfl, ?_⟩
        rw [upd_same, List.map_append]
        rfl
      · refine ⟨_, rfl, _, rfl, a, M, 0, _, rfl, hT.same sm, ⟨by omega, by omega⟩, ?_⟩
        refine ⟨_, hS, small64 (by rw [List.length_map]; omega), sm.wr hsg, S ++ [decide ((0 : Int) + (i : Int) ∈ rowAt M 0)], by rw [List.length_append, lS]; rfl, ?_⟩
        rw [upd_same, List.map_append]
        rfl
    rintro H1 ⟨sm1, S, lS, hS⟩
    have lS : S.length = M.length := by omega
    refine ⟨(by show 0 ≤ sizeLine; decide), fun pl hpl => ?_⟩
    have npl : sg ≠ pl := ne_of_none hS hpl
    refine ⟨_, rfl, _, _, rfl, ⟨by omega, by omega, by omega, by omega⟩, for_range (lo := 1) (n := (((M.length : Nat) : Int) - 1).toNat) (fun i σ H' => Same H H' ∧ H' sg = some (.lst (S.map V.bl)) ∧
        (∃ ts : List Addr, H' pl = some (.lst (ts.map V.ref)) ∧ Paired (fun r (j : Int) => ∃ c : Int, H' r = some (.tup [.int c, .int j])) ts ((List.range i).map fun k : Nat => (1 : Int) + (k : Int))) ∧
        ∃ o4 o5 o6 : Option V, σ = [some (.ref a), some (.int ((M.length : Nat) : Int)), some (.ref sg), some (.ref pl), o4, o5, o6, none, none, none])
      ⟨sm1.new hpl, by rw [upd_ne npl]; exact hS, ⟨[], upd_same, .nil⟩, none, none, none, rfl⟩ ?_ ?_⟩
    · rintro i σ H' hi ⟨sm, hS', ⟨ts, hpl', pts⟩, o4, o5, o6, rfl⟩
      have hi' : i + 1 < M.length := by omega
      -- others
      refine ⟨_, rfl, _, _, rfl, ⟨by omega, by omega, by omega, by omega⟩, fun D hD => lc_range (lo := 1) (n := (((M.length : Nat) : Int) - 1).toNat) (fun j Hc => Same H' Hc ∧ ∃ ns : List Int, Hc D = some (.lst (ns.map V.int)) ∧ ns.length ≤ j ∧ ∀ x ∈ ns, 1 ≤ x ∧ x < ((M.length : Nat) : Int))
        ⟨same_new hD, [], upd_same, Nat.le_refl _, fun x h => absurd h (by simp)⟩ ?_ ?_⟩
      · rintro j Hc hj ⟨smc, ns, hns, lns, ins⟩
        refine ⟨rfl, _, rfl, _, rfl, rfl, _, rfl, ite2 (fun c => ?_) (fun c => ⟨smc, ns, hns, by omega, ins⟩)⟩
        refine ⟨_, rfl, _, hns, small64 (by rw [List.length_map]; omega), smc.wr hD, ns ++ [(1 : Int) + (j : Int)], by rw [upd_same, List.map_append]; rfl, by rw [List.length_append, List.length_singleton]; omega, fun x hx => ?_⟩
        rcases List.mem_append.mp hx with m | m
        · exact ins x m
        · rw [List.mem_singleton.mp m]
          omega
      rintro H2 ⟨sm2, ns, hns, lns, ins⟩
      -- ahead
      refine ⟨_, rfl, D, rfl, ⟨_, SqL.of hns⟩, fun D2 hD2 => lc_list (K := K) (a := D) (xs := ns.map V.int) (fun j Hc => Same H2 Hc ∧ ∃ ms : List Int, Hc D2 = some (.lst (ms.map V.int)) ∧ ms.length ≤ j)
        ⟨same_new hD2, [], upd_same, Nat.le_refl _⟩ (fun j Hc _ p => SqL.of (p.1 _ _ hns)) ?_ ?_⟩
      · rintro j x Hc hx ⟨smc, ms, hms, lms⟩
        rw [List.getElem?_map] at hx
        obtain ⟨y, hy, rfl⟩ := Option.map_eq_some_iff.mp hx
        have hjl : j < ns.length := (List.getElem?_eq_some_iff.mp hy).1
        have iy := ins y (List.mem_of_getElem? hy)
        have smH : Same H Hc := (sm.trans sm2).trans smc
        have hSc := smc _ _ (sm2 _ _ hS')
        obtain ⟨b1, hb1⟩ := at_bl (S := S) (i := (1 : Int) + (i : Int)) (by omega) (by omega)
        obtain ⟨b2, hb2⟩ := at_bl (S := S) (i := y) (by omega) (by omega)
        refine ⟨rfl, _, rfl, _, rfl, _, rfl, a, M, _, y, rfl, hT.same smH, ⟨by omega, by omega⟩, ?_⟩
        refine ⟨_, rfl, _, rfl, sg, _, _, _, rfl, rfl, SqL.of hSc, hb1, _, rfl, _, rfl, sg, _, _, _, rfl, rfl, SqL.of hSc, hb2, rfl, rfl, _, rfl, ite2 (fun c => ?_) (fun c => ⟨smc, ms, hms, by omega⟩)⟩
        refine ⟨_, rfl, _, hms, small64 (by rw [List.length_map]; omega), smc.wr hD2, ms ++ [y], by rw [upd_same, List.map_append]; rfl, by rw [List.length_append, List.length_singleton]; omega⟩
      rintro H3 ⟨sm3, ms, hms, lms⟩
      have hpl3 := sm3 _ _ (sm2 _ _ hpl')
      have lts : ts.length = i := by rw [pts.length]; simp
      refine ⟨_, rfl, .inl ⟨rfl, _, SqL.of hpl3⟩, ?_⟩
      refine ⟨_, rfl, D, _, rfl, .inl (SqL.of (sm3 _ _ hns)), _, rfl, D2, _, rfl, .inl (SqL.of hms), _, _, rfl, rfl, _, rfl, (by show 2 ≤ sizeLine; decide), fun t ht => ?_⟩
      have npt : pl ≠ t := ne_of_none hpl3 ht
      refine ⟨pl, _, _, rfl, rfl, by rw [upd_ne npt]; exact hpl3, small64 (by rw [List.length_map]; omega), ?_⟩
      have smA : Same H' (upd H3 t (.tup [.int (((ns.map V.int).length : Nat) - ((ms.map V.int).length : Nat)), .int ((1 : Int) + (i : Int))])) := (sm2.trans sm3).new ht
      have hplA := smA _ _ hpl'
      have nls : ∀ xs : List V, (HO.lst (ts.map V.ref)) ≠ .tup xs := fun xs z => by cases z
      refine ⟨(sm.trans smA).wr (sm1.free hpl), ?_, ⟨ts ++ [t], by rw [upd_same, List.map_append]; rfl, ?_⟩, _, _, _, rfl⟩
      · rw [upd_ne npl]
        exact smA _ _ hS'
      · rw [List.range_succ, List.map_append]
        refine paired_append (Paired.mono (fun r j ⟨c, q⟩ => ⟨c, ?_⟩) pts) (.cons ⟨(((ns.map V.int).length : Nat) : Int) - (((ms.map V.int).length : Nat) : Int), ?_⟩ .nil)
        · have q2 := smA _ _ q
          rw [upd_ne (ne_of q2 hplA fun z => nls _ z.symm)]
          exact q2
        · rw [upd_ne (Ne.symm npt), upd_same]
    · rintro σ H' ⟨sm, hS', ⟨ts, hpl', pts⟩, o4, o5, o6, rfl⟩
      have lts : ts.length = (((M.length : Nat) : Int) - 1).toNat := by rw [pts.length]; simp
      -- the order
      refine ⟨(by show 2 ≤ sizeLine; decide), fun t0 h0 => ⟨(by show 1 ≤ sizeLine; decide), fun t1' h1' => ?_⟩⟩
      have nt10 : t1' ≠ t0 := fun z => by rw [z, upd_same] at h1'; cases h1'
      have smb : Same H' (upd (upd H' t0 (.tup [.int 0, .bl true])) t1' (.tup [.ref t0])) := (same_new h0).new h1'
      have e0 : (upd (upd H' t0 (.tup [.int 0, .bl true])) t1' (.tup [.ref t0])) t0 = some (.tup [.int 0, .bl true]) := by rw [upd_ne nt10.symm, upd_same]
      have e1 : (upd (upd H' t0 (.tup [.int 0, .bl true])) t1' (.tup [.ref t0])) t1' = some (.tup [.ref t0]) := upd_same
      generalize hHb : upd (upd H' t0 (.tup [.int 0, .bl true])) t1' (.tup [.ref t0]) = Hb at smb e0 e1
      have hplb := smb _ _ hpl'
      refine ⟨_, rfl, pl, _, rfl, SqL.of hplb, fun x hx => ?_, fun ys p perm hp => ?_⟩
      · obtain ⟨r, hr', rfl⟩ := List.mem_map.mp hx
        obtain ⟨k, hk⟩ := List.getElem?_of_mem hr'
        obtain ⟨j, _, c, q⟩ := paired_getL pts hk
        exact ⟨r, c, j, rfl, smb _ _ q⟩
      have pv0 := paired_refs (G := fun (v : V) (j : Int) => ∃ (r : Addr) (c : Int), v = V.ref r ∧ Hb r = some (.tup [.int c, .int j])) (fun r j ⟨c, q⟩ => ⟨r, c, rfl, smb _ _ q⟩) pts
      obtain ⟨js, pj, pys⟩ := paired_perm perm.symm pv0
      have ljs : js.length = (((M.length : Nat) : Int) - 1).toNat := by rw [pj.length_eq]; simp
      have lys : ys.length = js.length := pys.length
      have ijs : ∀ j ∈ js, 1 ≤ j ∧ j < ((M.length : Nat) : Int) := fun j mj => by
        obtain ⟨k, mk, rfl⟩ := List.mem_map.mp (pj.mem_iff.mp mj)
        rw [List.mem_range] at mk
        omega
      have smp : Same Hb (upd Hb p (.lst ys)) := same_new hp
      refine ⟨p, rfl, ⟨_, SqL.of upd_same⟩, fun D hD => lc_list (K := K) (a := p) (xs := ys) (fun i Hc => Same (upd Hb p (.lst ys)) Hc ∧ ∃ (us : List Addr) (o' : Ord), Hc D = some (.lst (us.map V.ref)) ∧ o'.map (·.1) = js.take i ∧
          Paired (fun r (q : Int × Bool) => Hc r = some (.tup [V.int q.1, V.bl q.2])) us o') ⟨same_new hD, [], [], upd_same, by simp, .nil⟩ (fun i Hc _ q => SqL.of (q.1 _ _ upd_same)) ?_ ?_⟩
      · rintro i x Hc hx ⟨smc, us, o', hus, eo, pus⟩
        obtain ⟨j, hj, r, c, rfl, er⟩ := paired_getL pys hx
        have er' := smc _ _ (smp _ _ er)
        have iij := ijs j (List.mem_of_getElem? hj)
        have hSc := smc _ _ (smp _ _ (smb _ _ hS'))
        obtain ⟨b, hb⟩ := at_bl (S := S) (i := j) (by omega) (by omega)
        have hil : i < js.length := (List.getElem?_eq_some_iff.mp hj).1
        have lus : us.length = i := by
          rw [pus.length, ← List.length_map (f := (·.1)) (as := o'), eo, List.length_take]
          omega
        refine ⟨r, _, rfl, SqT.of er', rfl, _, _, rfl, _, _, rfl, rfl, rfl, _, rfl, _, rfl, _, rfl, sg, _, _, _, rfl, rfl, SqL.of hSc, hb, (by show 2 ≤ sizeLine; decide), fun t ht => ?_⟩
        have nDt : D ≠ t := ne_of_none hus ht
        refine ⟨_, by rw [upd_ne nDt]; exact hus, small64 (by rw [List.length_map, lus]; omega), (smc.new ht).wr hD, us ++ [t], o' ++ [(j, b)], by rw [upd_same, List.map_append]; rfl, ?_, ?_⟩
        · rw [List.map_append, eo, List.take_add_one, hj]
          rfl
        · have eD : (upd Hc t (.tup [V.int j, V.bl b])) D = some (.lst (us.map V.ref)) := by rw [upd_ne nDt]; exact hus
          have nls : ∀ xs : List V, (HO.lst (us.map V.ref)) ≠ .tup xs := fun xs z => by cases z
          refine paired_append (Paired.mono (fun r q e => ?_) pus) (.cons ?_ .nil)
          · have q2 := same_new (o := HO.tup [V.int j, V.bl b]) ht _ _ e
            rw [upd_ne (ne_of q2 eD fun z => nls _ z.symm)]
            exact q2
          · rw [upd_ne (Ne.symm nDt), upd_same]
      · rintro Hc ⟨smc, us, o', hus, eo, pus⟩
        rw [lys, List.take_length] at eo
        have good : Good ((0, true) :: o') := good_cons (n := (((M.length : Nat) : Int) - 1).toNat) (by rw [eo]; exact pj)
        have lo : ((0, true) :: o' : Ord).length = M.length := by
          have : o'.length = js.length := by rw [← eo, List.length_map]
          rw [List.length_cons, this, ljs]
          omega
        have smH : Same H Hc := ((sm.trans smb).trans smp).trans smc
        have fin : ∀ (Hf : Hp) (po : Addr) (o4' o5' o6' : Option V), Same H Hf → OT Hf po ((0, true) :: o') →
            tRet (tIf (tTest (tOp (rEqD K) (tCall spBy [] E0 (tCons (tVar 7) tNil)) (tVar 0))) (tVar 7) (tC .non)) { nx := fun _ H' => Q .non H', rt := Q } [some (.ref a), some (.int ((M.length : Nat) : Int)), some (.ref sg), some (.ref pl), o4', o5', o6', some (.ref po), none, none] Hf := by
          intro Hf po o4' o5' o6' smf hOT
          refine ⟨_, rfl, po, _, rfl, hOT, good, by rw [lo]; exact t1, by rw [lo]; exact t6, fun H2 t sm2 hT2 => ?_⟩
          refine ⟨_, rfl, dTT _, dTT M, hT2.dp, (hT.same (smf.trans sm2)).dp, shaped_tt _, shaped_tt _, _, rfl, ite2 (fun c => ?_) (fun c => ?_)⟩
          · exact ⟨_, rfl, hQ H2 _ (smf.trans sm2) (.inr ⟨po, _, rfl, good, lo, (eqv_tt c).symm⟩)⟩
          · exact hQ H2 _ (smf.trans sm2) (.inl rfl)
        have e0c := smc _ _ (smp _ _ e0)
        have e1c := smc _ _ (smp _ _ e1)
        refine ⟨D, _, rfl, .inl ⟨SqL.of hus, fun t2 ht2 => ⟨t1', t2, _, _, rfl, rfl, SqT.of (same_new ht2 _ _ e1c), SqT.of upd_same, by simp, ?_, fun e => ?_, fun e q hq => ?_⟩⟩⟩
        · have : us.length = o'.length := pus.length
          rw [List.length_map, List.length_singleton, this]
          rw [List.length_cons] at lo
          exact Nat.le_of_lt (small64 (by omega))
        · refine fin _ _ _ _ _ (smH.new ht2) ⟨[t0], same_new ht2 _ _ e1c, ?_⟩
          have eu : us = [] := by simpa using e
          subst eu
          cases pus
          exact .cons (same_new ht2 _ _ e0c) .nil
        · refine fin _ _ _ _ _ ((smH.new ht2).new hq) ⟨t0 :: us, upd_same, .cons (same_new hq _ _ (same_new ht2 _ _ e0c)) ?_⟩
          exact Paired.mono (fun r q' e => same_new hq _ _ (same_new ht2 _ _ e)) pus
def spTold : Sp := spOrd
theorem scTold : FnScope ["tournament"] ["tournament"] (defScope s_told_order) := ⟨rfl, rfl, rfl, by decide +kernel, rfl, by decide +kernel, by decide +kernel⟩
theorem df_told_order (S : Stands K mg "told_order" s_told_order) (D1 : Df P w K mg base "check_tournament" 4 ["value"] spCheck) (D2 : Df P w K mg base "order_of" 2 ["tournament"] spOrd) :
    Df P w K mg base "told_order" 5 ["tournament"] spOrd := by
  refine df_mk S scTold (fun _ _ _ _ _ _ us hl => match us, hl with | [_], _ => rfl) (fun vs H Q E h => ?_) (fun f cdv A outer s H vs Q E hr h => ?_)
  · obtain ⟨a, M, rfl, _⟩ := h
    rfl
  · obtain ⟨a, M, rfl, hT, tour, hQ⟩ := h
    refine ⟨_, pss_cons (ps_expr (pcall D1 hr (pa_cons (pv 0) pa_nil))) (pss_one (ps_ret (pcall (D2.mono (by decide)) hr (pa_cons (pv 0) pa_nil)))), ?_⟩
    refine ⟨_, rfl, a, M, rfl, hT, tour, fun H' sm => ?_⟩
    exact ⟨_, rfl, a, M, rfl, hT.same sm, tour, fun H2 v sm2 h => hQ H2 v (sm.trans sm2) h⟩
end
end RB
/-! the law's draws: _law_stream, _law_next -/
namespace RB
open PySem PySem.Spec PyProof.Rows L2
/-- the ways behind a statement joined by a word -/
def tCutR (t u : TS) : TS := fun D σ H => ∃ Mid : L2.St → Hp → Prop, t { D with nx := Mid } σ H ∧ ∀ σ' H', Mid σ' H' → u D σ' H'
theorem pss_cutR {X : Cx} {st : Stmt} {rest : List Stmt} {t u : TS} (h1 : PS X st t) (h2 : PSs X rest u) : PSs X (st :: rest) (tCutR t u) := by
  refine ⟨fun pins s σ H D I ⟨Mid, ht, hm⟩ => ?_⟩
  refine wpAny_execs_cons (thn (h1.run pins s σ H { D with nx := Mid } I ht) fun f s1 q => ?_)
  cases f with
  | next =>
    obtain ⟨σ', H', I', q⟩ := q
    exact h2.run pins s1 σ' H' D I' (hm σ' H' q)
  | ret v => exact q
  | brk => exact q
  | cont => exact q
/-- all but s stays -/
def SameX (s : Addr) (H H' : Hp) : Prop := ∀ b o, b ≠ s → H b = some o → H' b = some o
theorem SameX.refl (s : Addr) (H : Hp) : SameX s H H := fun _ _ _ h => h
theorem SameX.trans {s : Addr} {H H1 H2 : Hp} (a : SameX s H H1) (b : SameX s H1 H2) : SameX s H H2 := fun c o n h => b c o n (a c o n h)
theorem SameX.of {s : Addr} {H H' : Hp} (a : Same H H') : SameX s H H' := fun b o _ h => a b o h
theorem SameX.upd {s : Addr} {H : Hp} {o : HO} : SameX s H (L2.upd H s o) := fun b u n h => by rw [upd_ne n]; exact h
/-- a stream: the script's copy, the cell, the place -/
def Strm (H : Hp) (s lc : Addr) : Prop := ∃ (ns : List Int) (c k : Int), H s = some (.lst [.ref lc, .int c, .int k]) ∧ H lc = some (.lst (ns.map V.int)) ∧ 0 ≤ k ∧ lc ≠ s
section
variable {P : Program} {w : World} {K : PySem.W.Frag} {mg : Str → Option Value} {base : Heap}
def spStream (K : PySem.W.Frag) : Sp := fun vs H Q _ => ∃ (a : Addr) (ns : List Int), vs = [.ref a] ∧ SqL K H a (ns.map V.int) ∧ ∀ (H' : Hp) (s lc : Addr), Strm H' s lc → Q (.ref s) H'
theorem scStream : FnScope ["_law_script"] ["_law_script"] (defScope s_law_stream) := ⟨rfl, rfl, rfl, by decide +kernel, rfl, by decide +kernel, by decide +kernel⟩
theorem df_stream (S : Stands K mg "_law_stream" s_law_stream) (T : Tx mg) : Df P w K mg base "_law_stream" 1 ["_law_script"] (spStream K) := by
  refine df_mk S scStream (fun _ _ _ _ _ _ us hl => match us, hl with | [_], _ => rfl) (fun vs H Q E h => ?_) (fun f cdv A outer s H vs Q E hr h => ?_)
  · obtain ⟨a, ns, rfl, _⟩ := h
    rfl
  · obtain ⟨a, ns, rfl, hS, hQ⟩ := h
    refine ⟨_, pss_one (ps_ret (pe_lst (pa_cons (pe_callTy call_list_of (by rfl) T.list (by decide +kernel) (pa_cons (pv 0) pa_nil)) (pa_cons pe_int (pa_cons pe_int pa_nil))))), ?_⟩
    refine ⟨_, rfl, a, _, rfl, .inl hS, fun lc hlc => ⟨(by show 3 ≤ sizeLine; decide), fun s hs => ?_⟩⟩
    have n : lc ≠ s := fun z => by rw [← z, upd_same] at hs; cases hs
    exact hQ _ s lc ⟨ns, 0, 0, upd_same, by rw [upd_ne n, upd_same], Int.le_refl _, n⟩
def spNext : Sp := fun vs H Q _ => ∃ (s lc : Addr) (m : Int), vs = [.ref s, .int m] ∧ Strm H s lc ∧ 0 < m ∧ m < 1073741824 ∧ ∀ (H' : Hp) (d : Int), 0 ≤ d → d < m → Strm H' s lc → SameX s H H' → Q (.int d) H'
theorem scNext : FnScope ["_law_stream_here", "_law_many", "_law_k", "_law_cell", "_law_digit"] ["_law_stream_here", "_law_many"] (defScope s_law_next) := ⟨rfl, rfl, rfl, by decide +kernel, rfl, by decide +kernel, by decide +kernel⟩
theorem df_next (S : Stands K mg "_law_next" s_law_next) (T : Tx mg) : Df P w K mg base "_law_next" 1 ["_law_stream_here", "_law_many"] spNext := by
  refine df_mk S scNext (fun _ _ _ _ _ _ us hl => match us, hl with | [_, _], _ => rfl) (fun vs H Q E h => ?_) (fun f cdv A outer s0 H vs Q E hr h => ?_)
  · obtain ⟨s, lc, m, rfl, _⟩ := h
    rfl
  · obtain ⟨s, lc, m, rfl, ⟨ns, c, k, hs, hlc, hk, hne⟩, m0, m1, hQ⟩ := h
    refine ⟨_, pss_cutR (ps_if (pt_cmpR op_eq (pe_ix ix_list (pv 0) pe_int (fun _ _ => rfl)) pe_int (nomark _))
        (pss_cons (ps_set (i := 2) scNext.nd rfl (Or.inl rfl) (pe_ix ix_list (pv 0) pe_int (fun _ _ => rfl)))
        (pss_cons (ps_set (i := 3) scNext.nd rfl (Or.inl rfl) (pe_op op_add pe_int (pv 2)))
        (pss_cutR (ps_if (pt_cmpR op_lt (pv 2) (pe_callB call_len_seq (by rfl) T.len PySem.boot_len (pa_cons (pe_ix ix_list (pv 0) pe_int (fun _ _ => rfl)) pa_nil)) (nomark _))
          (pss_one (ps_set (i := 3) scNext.nd rfl (Or.inl rfl) (pe_callB call_abs (by rfl) T.abs (by decide +kernel) (pa_cons (pe_ix ix_list (pe_ix ix_list (pv 0) pe_int (fun _ _ => rfl)) (pv 2) (fun _ _ => rfl)) pa_nil)))) pss_nil)
        (pss_cutR (ps_if (pt_cmpR op_lt (pv 3) (pe_op op_pow pe_int pe_int) (nomark _))
          (pss_cons (ps_set (i := 3) scNext.nd rfl (Or.inl rfl) (pe_op op_mod (pe_callTy call_int1 (by rfl) T.int (by decide +kernel) (pa_cons (pe_op op_add (pe_op op_add (pe_op op_mul (pv 3) pe_int) (pe_op op_mul (pv 2) pe_int)) pe_int) pa_nil)) pe_int))
          (pss_one (ps_set (i := 3) scNext.nd rfl (Or.inl rfl) (pe_op op_add (pe_op op_mul (pe_op op_mod (pe_callTy call_int1 (by rfl) T.int (by decide +kernel) (pa_cons (pe_op op_add (pe_op op_mul (pv 3) pe_int) pe_int) pa_nil)) pe_int) pe_int) (pv 3))))) pss_nil)
        (pss_cons (ps_asg (pv 3) (pg_sub (pv 0) pe_int set_list))
        (pss_one (ps_asg (pe_op op_add (pv 2) pe_int) (pg_sub (pv 0) pe_int set_list)))))))) pss_nil)
      (pss_cons (ps_set (i := 4) scNext.nd rfl (Or.inl rfl) (pe_op op_mod (pe_callTy call_int1 (by rfl) T.int (by decide +kernel) (pa_cons (pe_ix ix_list (pv 0) pe_int (fun _ _ => rfl)) pa_nil)) (pv 1)))
      (pss_cons (ps_asg (pe_op op_fdiv (pe_ix ix_list (pv 0) pe_int (fun _ _ => rfl)) (pv 1)) (pg_sub (pv 0) pe_int set_list))
      (pss_one (ps_ret (pv 4))))), ?_⟩
    have hmulR : ∀ (i j : Int), j < 4294967296 → 0 ≤ j → CMul i j := fun i j h1 h2 => .inr ⟨by omega, by omega⟩
    refine ⟨fun σ' H' => ∃ (o2 o3 : Option V) (c k : Int), σ' = [some (.ref s), some (.int m), o2, o3, none] ∧ H' s = some (.lst [.ref lc, .int c, .int k]) ∧ H' lc = some (.lst (ns.map V.int)) ∧ 0 ≤ k ∧ SameX s H H', ?_, ?_⟩
    · refine ⟨_, rfl, s, _, _, _, rfl, rfl, SqL.of hs, rfl, rfl, _, rfl, ite2 (fun e => ?_) (fun e => ⟨none, none, c, k, rfl, hs, hlc, hk, SameX.refl _ _⟩)⟩
      refine ⟨_, rfl, s, _, _, _, rfl, rfl, SqL.of hs, rfl, ?_⟩
      refine ⟨_, rfl, _, _, rfl, rfl, ?_⟩
      refine ⟨fun σ' H' => ∃ cell : Int, σ' = [some (.ref s), some (.int m), some (.int k), some (.int cell), none] ∧ H' = H, ?_, ?_⟩
      · refine ⟨_, rfl, _, rfl, s, _, _, _, rfl, rfl, SqL.of hs, rfl, lc, _, rfl, .inl (SqL.of hlc), _, _, rfl, rfl, _, rfl, ite2 (fun e => ?_) (fun e => ⟨_, rfl, rfl⟩)⟩
        have e : k < (ns.length : Int) := by simpa using e
        obtain ⟨kn, rfl⟩ : ∃ n : Nat, k = (n : Int) := ⟨k.toNat, by omega⟩
        have hkn : kn < ns.length := by omega
        refine ⟨_, rfl, s, _, _, _, rfl, rfl, SqL.of hs, rfl, _, rfl, lc, _, _, _, rfl, rfl, SqL.of hlc, at_int (List.getElem?_eq_getElem hkn), _, rfl, ?_⟩
        exact ⟨_, rfl, rfl⟩
      rintro σ' H' ⟨cell, rfl, rfl⟩
      refine ⟨fun σ' H1 => ∃ cell : Int, σ' = [some (.ref s), some (.int m), some (.int k), some (.int cell), none] ∧ H1 = H', ?_, ?_⟩
      · refine ⟨_, rfl, _, _, rfl, rfl, ⟨by decide, by decide, by decide⟩, _, _, rfl, rfl, _, rfl, ite2 (fun e => ?_) (fun e => ⟨_, rfl, rfl⟩)⟩
        refine ⟨_, rfl, _, _, rfl, rfl, hmulR _ _ (by decide) (by decide), _, rfl, _, _, rfl, rfl, hmulR _ _ (by decide) (by decide), _, _, rfl, rfl, _, _, rfl, rfl, .inl ⟨_, rfl, _, _, rfl, rfl, (by show (0 : Int) < 2147483647; decide), ?_⟩⟩
        refine ⟨_, rfl, _, _, rfl, rfl, hmulR _ _ (by decide) (by decide), _, _, rfl, rfl, .inl ⟨_, rfl, _, _, rfl, rfl, (by show (0 : Int) < 2147483647; decide), _, _, rfl, rfl, hmulR _ _ (by decide) (by decide), _, rfl, _, _, rfl, rfl, ?_⟩⟩
        exact ⟨_, rfl, rfl⟩
      rintro σ' H1 ⟨cell, rfl, rfl⟩
      refine ⟨_, rfl, _, rfl, s, _, _, _, rfl, rfl, hs, rfl, ?_⟩
      refine ⟨_, rfl, _, _, rfl, rfl, _, rfl, s, _, _, _, rfl, rfl, upd_same, rfl, ?_⟩
      refine ⟨_, _, cell, k + 1, rfl, upd_same, ?_, by omega, SameX.trans SameX.upd SameX.upd⟩
      rw [upd_ne hne, upd_ne hne]
      exact hlc
    · rintro σ' H' ⟨o2, o3, c', k', rfl, hs', hlc', hk', sx⟩
      refine ⟨_, rfl, s, _, _, _, rfl, rfl, SqL.of hs', rfl, .inl ⟨_, rfl, _, rfl, _, _, rfl, rfl, m0, ?_⟩⟩
      refine ⟨_, rfl, s, _, _, _, rfl, rfl, SqL.of hs', rfl, _, rfl, _, _, rfl, rfl, ⟨m0, m1⟩, _, rfl, s, _, _, _, rfl, rfl, hs', rfl, ?_⟩
      refine ⟨_, rfl, hQ _ (c' % m) (Int.emod_nonneg _ (by omega)) (Int.emod_lt_of_pos _ m0) ⟨ns, c' / m, k', upd_same, ?_, hk', hne⟩ (sx.trans SameX.upd)⟩
      rw [upd_ne hne]
      exact hlc'
end
end RB
/-! the law's drawn tournament: _law_tournament -/
namespace RB
open PySem PySem.Spec PyProof.Rows L2
theorem RL.sameX {H0 H H' : Hp} {R s : Addr} {rl : List Addr} {n : Nat} {E : List (Int × Int)} {o : HO} (h : RL H0 H R rl n E) (hs : H0 s = some o) (sx : SameX s H H') : RL H0 H' R rl n E := by
  have nR : R ≠ s := fun z => by
    have := h.new.1
    rw [z, hs] at this
    cases this
  have nq : ∀ q ∈ rl, q ≠ s := fun q m z => by
    have := h.new.2 q m
    rw [z, hs] at this
    cases this
  exact ⟨sx _ _ nR h.at_, h.len, h.nd, h.out, h.new, fun p q e => sx _ _ (nq q (List.mem_of_getElem? e)) (h.row p q e)⟩
theorem Strm.same {H H' : Hp} {s lc : Addr} (h : Strm H s lc) (e : Same H H') : Strm H' s lc := let ⟨ns, c, k, h1, h2, h3, h4⟩ := h; ⟨ns, c, k, e _ _ h1, e _ _ h2, h3, h4⟩
/-- a stream stays while a new row is written -/
theorem Strm.other {H : Hp} {s lc q : Addr} {o : HO} (h : Strm H s lc) (n1 : s ≠ q) (n2 : lc ≠ q) : Strm (upd H q o) s lc := by
  obtain ⟨ns, c, k, h1, h2, h3, h4⟩ := h
  exact ⟨ns, c, k, by rw [upd_ne n1]; exact h1, by rw [upd_ne n2]; exact h2, h3, h4⟩
theorem norm_lt {a b : Nat} (h : a < b) : norm Int.toNat ((a : Int), (b : Int)) = (a, b) ∧ norm Int.toNat ((b : Int), (a : Int)) = (a, b) := by
  unfold norm
  refine ⟨?_, ?_⟩ <;> (show (min _ _, max _ _) = (a, b); rw [Int.toNat_natCast, Int.toNat_natCast]; congr 1 <;> omega)
section
variable {P : Program} {w : World} {K : PySem.W.Frag} {mg : Str → Option Value} {base : Heap}
def spTournament : Sp := fun vs H Q _ => ∃ s lc : Addr, vs = [.ref s, .int 1, .int 6] ∧ Strm H s lc ∧ ∀ (H' : Hp) (t : Addr) (T : List (List Int)), T2 H' t T → Tour T → Q (.ref t) H'
abbrev nTn : List Str := ["_law_stream_here", "_law_least", "_law_most", "_law_many", "_law_rows_here", "_law_one", "_law_other", "_law_player", "_law_row"]
theorem scTn : FnScope nTn ["_law_stream_here", "_law_least", "_law_most"] (defScope s_law_tournament) := ⟨rfl, rfl, rfl, by decide +kernel, rfl, by decide +kernel, by decide +kernel⟩
theorem df_tournament (S : Stands K mg "_law_tournament" s_law_tournament) (T : Tx mg) (Dn : Df P w K mg base "_law_next" 1 ["_law_stream_here", "_law_many"] spNext) :
    Df P w K mg base "_law_tournament" 2 ["_law_stream_here", "_law_least", "_law_most"] spTournament := by
  refine df_mk S scTn (fun _ _ _ _ _ _ us hl => match us, hl with | [_, _, _], _ => rfl) (fun vs H Q E h => ?_) (fun f cdv A outer s0 H vs Q E hr h => ?_)
  · obtain ⟨s, lc, rfl, _⟩ := h
    rfl
  · obtain ⟨s, lc, rfl, hst, hQ⟩ := h
    refine ⟨_, pss_cons (ps_set (i := 3) scTn.nd rfl (Or.inl rfl) (pe_op op_add (pv 1) (pcall Dn hr (pa_cons (pv 0) (pa_cons (pe_op op_add (pe_op op_sub (pv 2) (pv 1)) pe_int) pa_nil)))))
      (pss_cons (ps_setLc (i := 4) (own := [("_law_player", 7)]) (g := gName 7) (tt := tYes) rfl scTn.nd rfl rfl (sw_true rfl rfl rfl (by decide +kernel)) (pi_range1 (by rfl) T.range (pa_cons (pv 3) pa_nil)) (blkOk_by (N := nTn) (sc := defScope s_law_tournament) (by decide +kernel))
        (fun _ _ _ _ _ => pg_name (i := 7) scTn.nd rfl (Or.inl rfl)) (fun _ _ _ _ _ => pts_nil) (fun _ _ _ _ _ => pe_lst pa_nil))
      (pss_cons (ps_for PassesOwn.never rfl (pi_range1 (by rfl) T.range (pa_cons (pv 3) pa_nil)) (pg_name (i := 5) scTn.nd rfl (Or.inl rfl))
        (pss_one (ps_for PassesOwn.never rfl (pi_range2 (by rfl) T.range (pa_cons (pe_op op_add (pv 5) pe_int) (pa_cons (pv 3) pa_nil))) (pg_name (i := 6) scTn.nd rfl (Or.inl rfl))
          (pss_one (ps_if (pt_cmpR op_eq (pcall Dn hr (pa_cons (pv 0) (pa_cons pe_int pa_nil))) pe_int (nomark _))
            (pss_one (ps_expr (pe_bm PySem.F.plainAttrs_list PySem.F.slot_list_append PySem.F.type_list_append mt_append (pe_ix ix_list (pv 4) (pv 5) (fun _ _ => rfl)) (pa_cons (pv 6) pa_nil))))
            (pss_one (ps_expr (pe_bm PySem.F.plainAttrs_list PySem.F.slot_list_append PySem.F.type_list_append mt_append (pe_ix ix_list (pv 4) (pv 6) (fun _ _ => rfl)) (pa_cons (pv 5) pa_nil)))))))))
      (pss_one (ps_ret (pe_callTy cr_tuple (by rfl) T.tuple (by decide +kernel) (pa_cons
        (pe_lc (own := [("_law_row", 8)]) (g := gName 8) (tt := tYes) rfl scTn.nd (pi_list (pv 4)) (blkOk_by (N := nTn) (sc := defScope s_law_tournament) (by decide +kernel))
          (fun _ _ _ _ _ => pg_name (i := 8) scTn.nd rfl (Or.inl rfl)) (fun _ _ _ _ _ => pts_nil)
          (fun _ _ _ _ _ => pe_callTy (r := rTupOf K) cr_tuple (by rfl) T.tuple (by decide +kernel) (pa_cons (pe_callB (r := rSorted K) cr_sorted (by rfl) T.sorted (by decide +kernel) (pa_cons (pv 8) pa_nil)) pa_nil))) pa_nil)))))), ?_⟩
    refine ⟨_, rfl, _, rfl, _, rfl, _, rfl, _, _, rfl, rfl, _, _, rfl, rfl, s, lc, _, rfl, hst, (by decide), (by decide), fun H1 d d0 d1 st1 _ => ⟨_, _, rfl, rfl, ?_⟩⟩
    obtain ⟨n, hn⟩ : ∃ n : Nat, (1 : Int) + d = (n : Int) := ⟨(1 + d).toNat, by omega⟩
    have n1 : 1 ≤ n := by omega
    have n6 : n ≤ 6 := by omega
    dsimp only
    rw [hn]
    obtain ⟨ns1, c1, k1, hs1, hlc1, _, hne⟩ := id st1
    -- the empty rows
    refine ⟨_, rfl, _, rfl, (by omega), (by omega), fun R hR => lc_range (lo := 0) (n := ((n : Nat) : Int).toNat) (fun i Hc => Same H1 Hc ∧ ∃ rl : List Addr, RL H1 Hc R rl i []) ⟨same_new hR, [], RL.start hR⟩ ?_ ?_⟩
    · rintro i Hc hi ⟨sm, rl, hRL⟩
      refine ⟨rfl, (by show 0 ≤ sizeLine; decide), fun q hq => ?_⟩
      obtain ⟨e1, e2⟩ := hRL.snoc sm hq
      exact ⟨_, e1, small64 (by rw [List.length_map, hRL.len]; omega), (sm.new hq).wr hR, _, e2⟩
    · rintro H2 ⟨sm2, rl, hRL⟩
      rw [Int.toNat_natCast] at hRL
      refine ⟨_, rfl, _, rfl, (by omega), (by omega), for_range (lo := 0) (n := ((n : Nat) : Int).toNat) (fun i σ H' => Strm H' s lc ∧ (∃ E : List (Int × Int), RL H1 H' R rl n E ∧ E.map (norm Int.toNat) = prows n i ∧ ∀ e ∈ E, (0 ≤ e.1 ∧ e.1 < (n : Int)) ∧ (0 ≤ e.2 ∧ e.2 < (n : Int))) ∧
          ∃ o5 o6 : Option V, σ = [some (.ref s), some (.int 1), some (.int 6), some (.int (n : Int)), some (.ref R), o5, o6, none, none])
        ⟨st1.same sm2, ⟨[], hRL, rfl, fun e h => absurd h (by simp)⟩, none, none, rfl⟩ ?_ ?_⟩
      · rintro i σ H' hi ⟨st, ⟨E, hRL, hE, hin⟩, o5, o6, rfl⟩
        rw [Int.toNat_natCast] at hi
        have z0 : (0 : Int) + (i : Int) = (i : Int) := by omega
        rw [z0]
        refine ⟨_, rfl, _, _, rfl, rfl, _, rfl, _, _, rfl, ⟨by omega, by omega, by omega, by omega⟩, for_range (lo := (i : Int) + 1) (n := (((n : Nat) : Int) - ((i : Int) + 1)).toNat) (fun t σ Hj => Strm Hj s lc ∧ (∃ E : List (Int × Int), RL H1 Hj R rl n E ∧ E.map (norm Int.toNat) = prows n i ++ prow n i t ∧ ∀ e ∈ E, (0 ≤ e.1 ∧ e.1 < (n : Int)) ∧ (0 ≤ e.2 ∧ e.2 < (n : Int))) ∧
            ∃ o6 : Option V, σ = [some (.ref s), some (.int 1), some (.int 6), some (.int (n : Int)), some (.ref R), some (.int (i : Int)), o6, none, none])
          ⟨st, ⟨E, hRL, by rw [hE]; simp [prow], hin⟩, _, rfl⟩ ?_ ?_⟩
        · rintro t σ Hj ht ⟨st, ⟨E, hRL, hE, hin⟩, o6, rfl⟩
          have ez : (i : Int) + 1 + (t : Int) = ((i + 1 + t : Nat) : Int) := by omega
          rw [ez]
          have ht' : i + 1 + t < n := by omega
          have lE : E.length < 64 := by
            have e := congrArg List.length hE
            rw [List.length_map, List.length_append, prow_len] at e
            have := prows_len n6 i
            omega
          refine ⟨_, rfl, s, lc, 2, rfl, st, (by decide), (by decide), fun H3 dg _ _ st3 sx3 => ?_⟩
          have hRL3 := hRL.sameX hs1 sx3
          have hsH3 : ∀ {q : Addr} {o : HO}, H1 q = none → s ≠ q ∧ lc ≠ q := fun {q o} hq => ⟨ne_of_none hs1 hq, ne_of_none hlc1 hq⟩
          refine ⟨rfl, _, rfl, ite2 (fun c => ?_) (fun c => ?_)⟩
          · obtain ⟨q, hq, ha, hrow⟩ := hRL3.get (a := (i : Int)) (by omega) (by omega)
            have hq1 := hRL3.new.2 q (List.mem_of_getElem? hq)
            refine ⟨_, rfl, _, rfl, R, _, _, _, rfl, rfl, SqL.of hRL3.at_, ha, .inl ⟨rfl, _, SqL.of hrow⟩, _, rfl, q, _, _, rfl, rfl, hrow, small64 (by have := rowOf_len E (i : Int); rw [List.length_map]; omega), ?_⟩
            refine ⟨st3.other (ne_of_none hs1 hq1) (ne_of_none hlc1 hq1), ⟨E ++ [((i : Int), ((i + 1 + t : Nat) : Int))], hRL3.app (by omega) hq, ?_, ?_⟩, _, rfl⟩
            · rw [List.map_append, hE, prow_succ, ← List.append_assoc, List.map_singleton, (norm_lt (by omega)).1]
            · intro e me
              rcases List.mem_append.mp me with m | m
              · exact hin e m
              · rw [List.mem_singleton.mp m]
                refine ⟨⟨by dsimp only; omega, by dsimp only; omega⟩, by dsimp only; omega, by dsimp only; omega⟩
          · obtain ⟨q, hq, ha, hrow⟩ := hRL3.get (a := ((i + 1 + t : Nat) : Int)) (by omega) (by omega)
            have hq1 := hRL3.new.2 q (List.mem_of_getElem? hq)
            refine ⟨_, rfl, _, rfl, R, _, _, _, rfl, rfl, SqL.of hRL3.at_, ha, .inl ⟨rfl, _, SqL.of hrow⟩, _, rfl, q, _, _, rfl, rfl, hrow, small64 (by have := rowOf_len E ((i + 1 + t : Nat) : Int); rw [List.length_map]; omega), ?_⟩
            refine ⟨st3.other (ne_of_none hs1 hq1) (ne_of_none hlc1 hq1), ⟨E ++ [(((i + 1 + t : Nat) : Int), (i : Int))], hRL3.app (by omega) hq, ?_, ?_⟩, _, rfl⟩
            · rw [List.map_append, hE, prow_succ, ← List.append_assoc, List.map_singleton, (norm_lt (by omega)).2]
            · intro e me
              rcases List.mem_append.mp me with m | m
              · exact hin e m
              · rw [List.mem_singleton.mp m]
                refine ⟨⟨by dsimp only; omega, by dsimp only; omega⟩, by dsimp only; omega, by dsimp only; omega⟩
        · rintro σ Hj ⟨st, ⟨E, hRL, hE, hin⟩, o6, rfl⟩
          have e : (((n : Nat) : Int) - ((i : Int) + 1)).toNat = n - (i + 1) := by omega
          rw [e, ← prows_succ] at hE
          exact ⟨st, ⟨E, hRL, hE, hin⟩, _, _, rfl⟩
      · rintro σ H' ⟨st, ⟨E, hRL, hE, hin⟩, o5, o6, rfl⟩
        rw [Int.toNat_natCast] at hE
        have lE : E.length < 64 := by
          have e := congrArg List.length hE
          rw [List.length_map] at e
          have := prows_len n6 n
          omega
        refine tup_rowsC (iR := 4) (iRow := 8) hRL n6 lE rfl (by show 8 < 9; decide) fun Hf t _ hT => hQ Hf t _ hT ?_
        exact tour_byE (pos := Int.toNat) n1 n6 (fun x h0 h1 => by omega) (fun x y h0 h1 h2 h3 e => by omega) ⟨hin, hE⟩
end
end RB
/-! the law's drawn order: _law_order, _law_by_order, _law_some -/
namespace RB
open PySem PySem.Spec PyProof.Rows L2
/-- all tuples stay -/
def SameT (H H' : Hp) : Prop := ∀ b xs, H b = some (.tup xs) → H' b = some (.tup xs)
theorem SameT.refl (H : Hp) : SameT H H := fun _ _ h => h
theorem SameT.trans {H H1 H2 : Hp} (a : SameT H H1) (b : SameT H1 H2) : SameT H H2 := fun c xs h => b c xs (a c xs h)
theorem SameT.of {H H' : Hp} (a : Same H H') : SameT H H' := fun b xs h => a b _ h
theorem SameT.ofX {s : Addr} {H H' : Hp} (a : SameX s H H') {ys : List V} (h : H s = some (.lst ys)) : SameT H H' := fun b xs e => a b _ (ne_of e h fun z => by cases z) e
theorem SameT.upd {H : Hp} {p : Addr} {o : HO} {ys : List V} (h : H p = some (.lst ys)) : SameT H (L2.upd H p o) := fun b xs e => by
  rw [upd_ne (ne_of e h fun z => by cases z)]
  exact e
theorem OT.sameT {H H' : Hp} (s : SameT H H') {a : Addr} {o : Ord} (h : OT H a o) : OT H' a o := let ⟨rs, e, p⟩ := h; ⟨rs, s _ _ e, Paired.mono (fun _ _ q => s _ _ q) p⟩
theorem perm_eraseIdx {α : Type} : ∀ {l : List α} {k : Nat} {y : α}, l[k]? = some y → (y :: l.eraseIdx k).Perm l
  | [], k, y, h => by simp at h
  | a :: l, 0, y, h => by
    have e : a = y := by simpa using h
    subst e
    exact .refl _
  | a :: l, k + 1, y, h => by
    have ih := perm_eraseIdx (l := l) (k := k) (y := y) (by simpa using h)
    show (y :: a :: l.eraseIdx k).Perm (a :: l)
    exact (List.Perm.swap a y _).trans (ih.cons a)
theorem eraseIdx_map {α β : Type} (f : α → β) : ∀ (l : List α) (k : Nat), (l.eraseIdx k).map f = (l.map f).eraseIdx k
  | [], k => rfl
  | a :: l, 0 => rfl
  | a :: l, k + 1 => by
    show f a :: (l.eraseIdx k).map f = f a :: (l.map f).eraseIdx k
    rw [eraseIdx_map f l k]
theorem perm_start {n : Nat} (h : 1 ≤ n) : (([((0 : Int), true)] : Ord).map (·.1) ++ (List.range (n - 1)).map fun k : Nat => (1 : Int) + (k : Int)).Perm ((List.range n).map fun k : Nat => (k : Int)) := by
  obtain ⟨m, rfl⟩ : ∃ m, n = m + 1 := ⟨n - 1, by omega⟩
  have e : ((List.range (m + 1)).map fun k : Nat => (k : Int)) = 0 :: (List.range m).map fun k : Nat => (1 : Int) + (k : Int) := by
    rw [List.range_succ_eq_map, List.map_cons, List.map_map]
    congr 1
    refine List.map_congr_left fun k _ => ?_
    show ((k + 1 : Nat) : Int) = (1 : Int) + (k : Int)
    omega
  rw [e]
  exact .refl _
section
variable {P : Program} {w : World} {K : PySem.W.Frag} {mg : Str → Option Value} {base : Heap}
def spLOrder : Sp := fun vs H Q _ => ∃ (s lc : Addr) (n : Nat), vs = [.ref s, .int (n : Int)] ∧ Strm H s lc ∧ 1 ≤ n ∧ n ≤ 6 ∧ ∀ (H' : Hp) (t : Addr) (o : Ord), OT H' t o → Good o → o.length = n → Q (.ref t) H'
theorem scLOrder : FnScope ["_law_stream_here", "_law_many", "_law_left", "_law_order_here", "_law_turn"] ["_law_stream_here", "_law_many"] (defScope s_law_order) := ⟨rfl, rfl, rfl, by decide +kernel, rfl, by decide +kernel, by decide +kernel⟩
theorem df_lorder (S : Stands K mg "_law_order" s_law_order) (T : Tx mg) (Dn : Df P w K mg base "_law_next" 1 ["_law_stream_here", "_law_many"] spNext) :
    Df P w K mg base "_law_order" 2 ["_law_stream_here", "_law_many"] spLOrder := by
  refine df_mk S scLOrder (fun _ _ _ _ _ _ us hl => match us, hl with | [_, _], _ => rfl) (fun vs H Q E h => ?_) (fun f cdv A outer s0 H vs Q E hr h => ?_)
  · obtain ⟨s, lc, n, rfl, _⟩ := h
    rfl
  · obtain ⟨s, lc, n, rfl, hst, n1, n6, hQ⟩ := h
    refine ⟨_, pss_cons (ps_set (i := 2) scLOrder.nd rfl (Or.inl rfl) (pe_listRg rfl (by rfl) T.list (prg_2 (by rfl) T.range pe_int (pv 1))))
      (pss_cons (ps_set (i := 3) scLOrder.nd rfl (Or.inl rfl) (pe_tup (pa_cons (pe_tup (pa_cons pe_int (pa_cons pe_bl pa_nil))) pa_nil)))
      (pss_cons (ps_for PassesOwn.never rfl (pi_range1 (by rfl) T.range (pa_cons (pe_op op_sub (pv 1) pe_int) pa_nil)) (pg_name (i := 4) scLOrder.nd rfl (Or.inl rfl))
        (pss_one (ps_set (i := 3) scLOrder.nd rfl (Or.inl rfl) (pe_op op_catT (pv 3) (pe_tup (pa_cons (pe_tup (pa_cons
            (pe_bm PySem.F.plainAttrs_list PySem.F.slot_list_pop PySem.F.type_list_pop mt_popAt (pv 2) (pa_cons (pcall Dn hr (pa_cons (pv 0) (pa_cons (pe_callB call_len_seq (by rfl) T.len PySem.boot_len (pa_cons (pv 2) pa_nil)) pa_nil))) pa_nil))
            (pa_cons (pe_cmpR op_eq (pcall Dn hr (pa_cons (pv 0) (pa_cons pe_int pa_nil))) pe_int (nomark _)) pa_nil))) pa_nil))))))
      (pss_one (ps_ret (pv 3))))), ?_⟩
    obtain ⟨ns0, c0, k0, hs0, hlc0, hk0, hne⟩ := id hst
    refine ⟨_, rfl, _, _, rfl, rfl, RgOk.of_le (by omega) (by omega) (by omega) (by omega), fun lf hlf => ?_⟩
    have sL : s ≠ lf := ne_of_none hs0 hlf
    have cL : lc ≠ lf := ne_of_none hlc0 hlf
    refine ⟨(by show 2 ≤ sizeLine; decide), fun t0 h0 => ⟨(by show 1 ≤ sizeLine; decide), fun t1 h1 => ?_⟩⟩
    have nt : t0 ≠ t1 := fun z => by rw [← z, upd_same] at h1; cases h1
    have stA : Strm (upd (upd (upd H lf (.lst (rgV 1 (n : Int)))) t0 (.tup [.int 0, .bl true])) t1 (.tup [.ref t0])) s lc := ((hst.same (same_new hlf)).same (same_new h0)).same (same_new h1)
    have hlA : (upd (upd (upd H lf (.lst (rgV 1 (n : Int)))) t0 (.tup [.int 0, .bl true])) t1 (.tup [.ref t0])) lf = some (.lst (rgV 1 (n : Int))) := (same_new h1) _ _ ((same_new h0) _ _ upd_same)
    have hOA : OT (upd (upd (upd H lf (.lst (rgV 1 (n : Int)))) t0 (.tup [.int 0, .bl true])) t1 (.tup [.ref t0])) t1 [((0 : Int), true)] := ⟨[t0], upd_same, .cons (by rw [upd_ne nt, upd_same]) .nil⟩
    generalize upd (upd (upd H lf (.lst (rgV 1 (n : Int)))) t0 (.tup [.int 0, .bl true])) t1 (.tup [.ref t0]) = HA at stA hlA hOA
    have eRg : rgV 1 (n : Int) = ((List.range (n - 1)).map fun k : Nat => (1 : Int) + (k : Int)).map V.int := by
      unfold rgV
      rw [List.map_map, show ((n : Int) - 1).toNat = n - 1 by omega]
      rfl
    rw [eRg] at hlA
    refine ⟨_, rfl, _, _, rfl, rfl, _, rfl, (by omega), (by omega), for_range (lo := 0) (n := ((n : Int) - 1).toNat) (fun i σ H' => Strm H' s lc ∧ ∃ (ls : List Int) (o : Ord) (po : Addr) (o4 : Option V), H' lf = some (.lst (ls.map V.int)) ∧ OT H' po o ∧ o.length = i + 1 ∧ o.length + ls.length = n ∧
        (o.map (·.1) ++ ls).Perm ((List.range n).map fun k : Nat => (k : Int)) ∧ σ = [some (.ref s), some (.int (n : Int)), some (.ref lf), some (.ref po), o4])
      ⟨stA, _, _, t1, none, hlA, hOA, rfl, by rw [List.length_map, List.length_range, List.length_singleton]; omega, perm_start n1, rfl⟩ ?_ ?_⟩
    · rintro i σ H' hi ⟨st, ls, o, po, o4, hl, hO, lo, ll, pm, rfl⟩
      have l1 : 1 ≤ ls.length := by omega
      have l6 : ls.length ≤ 6 := by omega
      refine ⟨_, rfl, _, rfl, .inl ⟨rfl, _, SqL.of hl⟩, _, rfl, _, rfl, lf, _, rfl, .inl (SqL.of hl), s, lc, ((ls.map V.int).length : Int), rfl, st, by rw [List.length_map]; omega, by rw [List.length_map]; omega, fun H1 d d0 d1 st1 sx1 => ?_⟩
      rw [List.length_map] at d1
      have hdl : d.toNat < ls.length := by omega
      have hl1 := sx1 _ _ sL.symm hl
      obtain ⟨ns', c', k', hs', _, _, _⟩ := id st
      obtain ⟨ns1, c1, k1, hs1, _, _, _⟩ := id st1
      have hO1 := hO.sameT (SameT.ofX sx1 hs')
      have hy := List.getElem?_eq_getElem hdl
      refine ⟨lf, _, d, d.toNat, .int ls[d.toNat], rfl, rfl, hl1, by omega, by omega, ?_, by rw [List.getElem?_map, hy]; rfl, ?_⟩
      · unfold seqIndex?
        rw [List.length_map]
        have e1 : ¬ d < 0 := by omega
        simp only [if_neg e1]
        rw [if_pos (by simp; omega)]
      · have st2 : Strm (upd H1 lf (.lst ((ls.map V.int).eraseIdx d.toNat))) s lc := st1.other sL cL
        have hO2 : OT (upd H1 lf (.lst ((ls.map V.int).eraseIdx d.toNat))) po o := hO1.sameT (SameT.upd hl1)
        obtain ⟨ns2, c2, k2, hs2, _, _, _⟩ := id st2
        refine ⟨_, rfl, s, lc, 2, rfl, st2, (by decide), (by decide), fun H3 e e0 e1 st3 sx3 => ?_⟩
        have hl3 := sx3 _ _ sL.symm (upd_same (H := H1) (a := lf) (o := .lst ((ls.map V.int).eraseIdx d.toNat)))
        have hO3 := hO2.sameT (SameT.ofX sx3 hs2)
        obtain ⟨rs, hrs, prs⟩ := id hO3
        have rsl := prs.length
        refine ⟨rfl, (by show 2 ≤ sizeLine; decide), fun t2 h2 => ⟨(by show 1 ≤ sizeLine; decide), fun t3 h3 => ?_⟩⟩
        have nt' : t2 ≠ t3 := fun z => by rw [← z, upd_same] at h3; cases h3
        have sm3 := (same_new (o := HO.tup [V.int ls[d.toNat], V.bl (decide (V.int e = V.int 0))]) h2).new (o := HO.tup [V.ref t2]) h3
        refine ⟨po, t3, _, _, rfl, rfl, SqT.of (sm3 _ _ hrs), SqT.of upd_same, ?_, ?_, fun z => (by cases z), fun _ p hp => ?_⟩
        · intro z
          have := congrArg List.length z
          rw [List.length_map, rsl, lo] at this
          cases this
        · rw [List.length_map, List.length_singleton, rsl]
          exact Nat.le_of_lt (small64 (by omega))
        · have e2 := sm3.new (o := HO.tup (rs.map V.ref ++ [V.ref t2])) hp
          refine ⟨st3.same e2, ls.eraseIdx d.toNat, o ++ [(ls[d.toNat], decide (V.int e = V.int 0))], p, _, ?_, ⟨rs ++ [t2], by rw [upd_same, List.map_append]; rfl, ?_⟩, by rw [List.length_append, lo]; rfl, ?_, ?_, rfl⟩
          · rw [eraseIdx_map]
            exact e2 _ _ hl3
          · refine paired_append (Paired.mono (fun r q u => e2 _ _ u) prs) (.cons ?_ .nil)
            refine same_new hp _ _ ?_
            rw [upd_ne nt', upd_same]
          · rw [List.length_append, List.length_eraseIdx_of_lt hdl, List.length_singleton]
            omega
          · rw [List.map_append, List.append_assoc]
            exact ((perm_eraseIdx hy).append_left _).trans pm
    · rintro σ H' ⟨st, ls, o, po, o4, hl, hO, lo, ll, pm, rfl⟩
      have ln : o.length = n := by omega
      have l0 : ls = [] := List.eq_nil_of_length_eq_zero (by omega)
      subst l0
      rw [List.append_nil] at pm
      exact ⟨_, rfl, hQ H' po o hO (by unfold Good; rw [ln]; exact pm) ln⟩
def spLBy : Sp := fun vs H Q _ => ∃ (a : Addr) (o : Ord), vs = [.ref a] ∧ OT H a o ∧ Good o ∧ 1 ≤ o.length ∧ o.length ≤ 6 ∧ ∀ (H' : Hp) (t : Addr), T2 H' t (byE o.length (edges o)) → Q (.ref t) H'
abbrev nLBy : List Str := ["_law_order_here", "_law_rows_here", "_law_k", "_law_j", "_law_one", "_law_other", "_law_entry", "_law_row"]
theorem scLBy : FnScope nLBy ["_law_order_here"] (defScope s_law_by_order) := ⟨rfl, rfl, rfl, by decide +kernel, rfl, by decide +kernel, by decide +kernel⟩
theorem df_lby (S : Stands K mg "_law_by_order" s_law_by_order) (T : Tx mg) : Df P w K mg base "_law_by_order" 1 ["_law_order_here"] spLBy := by
  refine df_mk S scLBy (fun _ _ _ _ _ _ us hl => match us, hl with | [_], _ => rfl) (fun vs H Q E h => ?_) (fun f cdv A outer s0 H vs Q E hr h => ?_)
  · obtain ⟨a, o, rfl, _⟩ := h
    rfl
  · obtain ⟨a, o, rfl, hO, good, h1, h6, hQ⟩ := h
    obtain ⟨rs, hrs, prs⟩ := id hO
    have rsl : rs.length = o.length := prs.length
    refine ⟨_, pss_cons (ps_setLc (i := 1) (own := [("_law_entry", 6)]) (g := gName 6) (tt := tYes) rfl scLBy.nd rfl rfl (sw_true rfl rfl rfl (by decide +kernel)) (pi_tup (pv 0)) (blkOk_by (N := nLBy) (sc := defScope s_law_by_order) (by decide +kernel))
        (fun _ _ _ _ _ => pg_name (i := 6) scLBy.nd rfl (Or.inl rfl)) (fun _ _ _ _ _ => pts_nil) (fun _ _ _ _ _ => pe_lst pa_nil))
      (pss_cons (ps_for PassesOwn.never rfl (pi_range1 (by rfl) T.range (pa_cons (pe_callB call_len_seq (by rfl) T.len PySem.boot_len (pa_cons (pv 0) pa_nil)) pa_nil)) (pg_name (i := 2) scLBy.nd rfl (Or.inl rfl))
        (pss_one (ps_for PassesOwn.never rfl (pi_range2 (by rfl) T.range (pa_cons (pe_op op_add (pv 2) pe_int) (pa_cons (pe_callB call_len_seq (by rfl) T.len PySem.boot_len (pa_cons (pv 0) pa_nil)) pa_nil))) (pg_name (i := 3) scLBy.nd rfl (Or.inl rfl))
          (pss_cons (ps_par (i := 4) (j := 5) rfl scLBy.nd rfl rfl (by decide) rfl rfl (pa_cons (pe_ix ix_tup (pe_ix ix_tup (pv 0) (pv 2) (fun _ _ => rfl)) pe_int (fun _ _ => rfl)) (pa_cons (pe_ix ix_tup (pe_ix ix_tup (pv 0) (pv 3) (fun _ _ => rfl)) pe_int (fun _ _ => rfl)) pa_nil)) (by rfl))
          (pss_one (ps_if (pt_cmpR op_eq (pe_ix ix_tup (pe_ix ix_tup (pv 0) (pv 2) (fun _ _ => rfl)) pe_int (fun _ _ => rfl)) (pe_ix ix_tup (pe_ix ix_tup (pv 0) (pv 3) (fun _ _ => rfl)) pe_int (fun _ _ => rfl)) (nomark _))
            (pss_one (ps_expr (pe_bm PySem.F.plainAttrs_list PySem.F.slot_list_append PySem.F.type_list_append mt_append (pe_ix ix_list (pv 1) (pv 4) (fun _ _ => rfl)) (pa_cons (pv 5) pa_nil))))
            (pss_one (ps_expr (pe_bm PySem.F.plainAttrs_list PySem.F.slot_list_append PySem.F.type_list_append mt_append (pe_ix ix_list (pv 1) (pv 5) (fun _ _ => rfl)) (pa_cons (pv 4) pa_nil))))))))))
      (pss_one (ps_ret (pe_callTy cr_tuple (by rfl) T.tuple (by decide +kernel) (pa_cons
        (pe_lc (own := [("_law_row", 7)]) (g := gName 7) (tt := tYes) rfl scLBy.nd (pi_list (pv 1)) (blkOk_by (N := nLBy) (sc := defScope s_law_by_order) (by decide +kernel))
          (fun _ _ _ _ _ => pg_name (i := 7) scLBy.nd rfl (Or.inl rfl)) (fun _ _ _ _ _ => pts_nil)
          (fun _ _ _ _ _ => pe_callTy (r := rTupOf K) cr_tuple (by rfl) T.tuple (by decide +kernel) (pa_cons (pe_callB (r := rSorted K) cr_sorted (by rfl) T.sorted (by decide +kernel) (pa_cons (pv 7) pa_nil)) pa_nil))) pa_nil))))), ?_⟩
    -- the empty rows
    refine ⟨_, rfl, a, rfl, ⟨_, SqT.of hrs⟩, fun R hR => lc_tup (K := K) (a := a) (xs := rs.map V.ref) (fun i Hc => Same H Hc ∧ ∃ rl : List Addr, RL H Hc R rl i []) ⟨same_new hR, [], RL.start hR⟩ (fun i Hc _ p => SqT.of (p.1 _ _ hrs)) ?_ ?_⟩
    · rintro i x Hc hx ⟨sm, rl, hRL⟩
      have hil : i < o.length := by
        have := (List.getElem?_eq_some_iff.mp hx).1
        rw [List.length_map, rsl] at this
        exact this
      refine ⟨rfl, (by show 0 ≤ sizeLine; decide), fun q hq => ?_⟩
      obtain ⟨e1, e2⟩ := hRL.snoc sm hq
      exact ⟨_, e1, small64 (by rw [List.length_map, hRL.len]; omega), (sm.new hq).wr hR, _, e2⟩
    · rintro H1 ⟨sm1, rl, hRL⟩
      rw [List.length_map, rsl] at hRL
      refine ⟨_, rfl, a, _, rfl, .inr (SqT.of (sm1 _ _ hrs)), ?_⟩
      rw [List.length_map, rsl]
      refine ⟨_, rfl, (by omega), (by omega), for_range (lo := 0) (n := ((o.length : Nat) : Int).toNat) (fun i σ H' => Same H H' ∧ RL H H' R rl o.length ((prows o.length i).map (edge o)) ∧ ∃ o2 o3 o4 o5 : Option V, σ = [some (.ref a), some (.ref R), o2, o3, o4, o5, none, none])
        ⟨sm1, hRL, none, none, none, none, rfl⟩ ?_ ?_⟩
      · rintro i σ H' hi ⟨sm, hRL, o2, o3, o4, o5, rfl⟩
        rw [Int.toNat_natCast] at hi
        have z0 : (0 : Int) + (i : Int) = (i : Int) := by omega
        rw [z0]
        obtain ⟨r, hr'⟩ : ∃ r, rs[i]? = some r := ⟨_, List.getElem?_eq_getElem (by omega)⟩
        obtain ⟨_, er⟩ := OT.get prs hr'
        refine ⟨_, rfl, _, _, rfl, rfl, _, rfl, a, _, rfl, .inr (SqT.of (sm _ _ hrs)), ?_⟩
        rw [List.length_map, rsl]
        refine ⟨_, _, rfl, ⟨by omega, by omega, by omega, by omega⟩, for_range (lo := (i : Int) + 1) (n := (((o.length : Nat) : Int) - ((i : Int) + 1)).toNat) (fun t σ Hj => Same H Hj ∧ RL H Hj R rl o.length ((prows o.length i ++ prow o.length i t).map (edge o)) ∧
            ∃ o3 o4 o5 : Option V, σ = [some (.ref a), some (.ref R), some (.int (i : Int)), o3, o4, o5, none, none])
          ⟨sm, ?_, _, _, _, rfl⟩ ?_ ?_⟩
        · have e0 : prows o.length i ++ prow o.length i 0 = prows o.length i := by simp [prow]
          rw [e0]
          exact hRL
        · rintro t σ Hj ht ⟨smj, hRLj, o3, o4, o5, rfl⟩
          have ez : (i : Int) + 1 + (t : Int) = ((i + 1 + t : Nat) : Int) := by omega
          rw [ez]
          have hj : i + 1 + t < o.length := by omega
          obtain ⟨r', hr2⟩ : ∃ r, rs[i + 1 + t]? = some r := ⟨_, List.getElem?_eq_getElem (by omega)⟩
          obtain ⟨_, er'⟩ := OT.get prs hr2
          have hrsj := smj _ _ hrs
          refine ⟨_, rfl, _, rfl, a, _, _, _, rfl, rfl, SqT.of hrsj, at_ref hr', r, _, _, _, rfl, rfl, SqT.of (smj _ _ er), rfl, _, rfl, _, rfl, a, _, _, _, rfl, rfl, SqT.of hrsj, at_ref hr2, r', _, _, _, rfl, rfl, SqT.of (smj _ _ er'), rfl, _, _, rfl, ?_⟩
          have pi := good.inn hi
          have pj := good.inn hj
          have lE : ((prows o.length i ++ prow o.length i t).map (edge o)).length < 64 := by
            have := prows_len h6 i
            rw [List.length_map, List.length_append, prow_len]
            omega
          have stepE : (prows o.length i ++ prow o.length i (t + 1)).map (edge o) = (prows o.length i ++ prow o.length i t).map (edge o) ++ [edge o (i, i + 1 + t)] := by
            rw [prow_succ, ← List.append_assoc, List.map_append]
            rfl
          refine ⟨_, rfl, _, rfl, a, _, _, _, rfl, rfl, SqT.of hrsj, at_ref hr', r, _, _, _, rfl, rfl, SqT.of (smj _ _ er), rfl, _, rfl, _, rfl, a, _, _, _, rfl, rfl, SqT.of hrsj, at_ref hr2, r', _, _, _, rfl, rfl, SqT.of (smj _ _ er'), rfl, rfl, _, rfl, ite2 (fun c => ?_) (fun c => ?_)⟩
          · have c : sgn o i = sgn o (i + 1 + t) := by simpa using c
            obtain ⟨q, hq, ha, hrow⟩ := hRLj.get pi.1 pi.2
            refine ⟨_, rfl, _, rfl, R, _, _, _, rfl, rfl, SqL.of hRLj.at_, ha, .inl ⟨rfl, _, SqL.of hrow⟩, _, rfl, q, _, _, rfl, rfl, hrow, small64 (by have := rowOf_len ((prows o.length i ++ prow o.length i t).map (edge o)) (plr o i); rw [List.length_map]; omega), ?_⟩
            refine ⟨smj.wr (hRLj.new.2 q (List.mem_of_getElem? hq)), ?_, _, _, _, rfl⟩
            rw [stepE, show edge o (i, i + 1 + t) = (plr o i, plr o (i + 1 + t)) from if_pos c]
            exact hRLj.app pi.1 hq
          · have c : ¬ sgn o i = sgn o (i + 1 + t) := by simpa using c
            obtain ⟨q, hq, ha, hrow⟩ := hRLj.get pj.1 pj.2
            refine ⟨_, rfl, _, rfl, R, _, _, _, rfl, rfl, SqL.of hRLj.at_, ha, .inl ⟨rfl, _, SqL.of hrow⟩, _, rfl, q, _, _, rfl, rfl, hrow, small64 (by have := rowOf_len ((prows o.length i ++ prow o.length i t).map (edge o)) (plr o (i + 1 + t)); rw [List.length_map]; omega), ?_⟩
            refine ⟨smj.wr (hRLj.new.2 q (List.mem_of_getElem? hq)), ?_, _, _, _, rfl⟩
            rw [stepE, show edge o (i, i + 1 + t) = (plr o (i + 1 + t), plr o i) from if_neg c]
            exact hRLj.app pj.1 hq
        · rintro σ Hj ⟨smj, hRLj, o3, o4, o5, rfl⟩
          have e : (((o.length : Nat) : Int) - ((i : Int) + 1)).toNat = o.length - (i + 1) := by omega
          rw [e, ← prows_succ] at hRLj
          exact ⟨smj, hRLj, _, _, _, _, rfl⟩
      · rintro σ H' ⟨sm, hRL, o2, o3, o4, o5, rfl⟩
        rw [Int.toNat_natCast] at hRL
        have lE : ((prows o.length o.length).map (edge o)).length < 64 := by
          have := prows_len h6 o.length
          rw [List.length_map]
          omega
        exact tup_rows (iR := 1) (iRow := 7) hRL h6 lE sm rfl (by show 7 < 8; decide) fun H' t _ q => hQ H' t q
def spSome : Sp := spTournament
theorem scSome : FnScope ["_law_stream_here", "_law_least", "_law_most"] ["_law_stream_here", "_law_least", "_law_most"] (defScope s_law_some) := ⟨rfl, rfl, rfl, by decide +kernel, rfl, by decide +kernel, by decide +kernel⟩
theorem df_some (S : Stands K mg "_law_some" s_law_some) (Dn : Df P w K mg base "_law_next" 1 ["_law_stream_here", "_law_many"] spNext) (Dt : Df P w K mg base "_law_tournament" 2 ["_law_stream_here", "_law_least", "_law_most"] spTournament)
    (Do : Df P w K mg base "_law_order" 2 ["_law_stream_here", "_law_many"] spLOrder) (Db : Df P w K mg base "_law_by_order" 1 ["_law_order_here"] spLBy) :
    Df P w K mg base "_law_some" 3 ["_law_stream_here", "_law_least", "_law_most"] spTournament := by
  refine df_mk S scSome (fun _ _ _ _ _ _ us hl => match us, hl with | [_, _, _], _ => rfl) (fun vs H Q E h => ?_) (fun f cdv A outer s0 H vs Q E hr h => ?_)
  · obtain ⟨s, lc, rfl, _⟩ := h
    rfl
  · obtain ⟨s, lc, rfl, hst, hQ⟩ := h
    refine ⟨_, pss_cons (ps_if (pt_cmpR op_eq (pcall (Dn.mono (by decide)) hr (pa_cons (pv 0) (pa_cons pe_int pa_nil))) pe_int (nomark _)) (pss_one (ps_ret (pcall Dt hr (pa_cons (pv 0) (pa_cons (pv 1) (pa_cons (pv 2) pa_nil)))))) pss_nil)
      (pss_one (ps_ret (pcall (Db.mono (by decide)) hr (pa_cons (pcall Do hr (pa_cons (pv 0) (pa_cons (pe_op op_add (pv 1) (pcall (Dn.mono (by decide)) hr (pa_cons (pv 0) (pa_cons (pe_op op_add (pe_op op_sub (pv 2) (pv 1)) pe_int) pa_nil)))) pa_nil))) pa_nil)))), ?_⟩
    refine ⟨_, rfl, s, lc, 2, rfl, hst, (by decide), (by decide), fun H1 d d0 d1 st1 _ => ⟨rfl, _, rfl, ite2 (fun c => ?_) (fun c => ?_)⟩⟩
    · exact ⟨_, rfl, _, rfl, _, rfl, s, lc, rfl, st1, hQ⟩
    · refine ⟨_, rfl, _, rfl, _, rfl, _, rfl, _, rfl, _, _, rfl, rfl, _, _, rfl, rfl, s, lc, _, rfl, st1, (by decide), (by decide), fun H2 e e0 e1 st2 _ => ⟨_, _, rfl, rfl, ?_⟩⟩
      obtain ⟨n, hn⟩ : ∃ n : Nat, (1 : Int) + e = (n : Int) := ⟨(1 + e).toNat, by omega⟩
      dsimp only
      rw [hn]
      refine ⟨s, lc, n, rfl, st2, by omega, by omega, fun H3 t o hO good lo => ?_⟩
      have g1 : 1 ≤ o.length := by omega
      have g6 : o.length ≤ 6 := by omega
      exact ⟨t, o, rfl, hO, good, g1, g6, fun H4 u hT => hQ H4 u _ hT (tour_edges good g1 g6)⟩
end
end RB
/-! the law's walks and rows: _law_walks, _law_rows -/
namespace RB
open PySem PySem.Spec PyProof.Rows L2
theorem L2t.same {H H' : Hp} (s : Same H H') {a : Addr} {T : List (List Int)} (h : L2t H a T) : L2t H' a T := by
  obtain ⟨rs, h1, h2⟩ := h
  exact ⟨rs, s _ _ h1, h2.same s⟩
theorem row1_upd {H : Hp} {p : Addr} {o o' : HO} (hp : H p = some o') (hn : ∀ xs, o' ≠ .tup xs) {rs : List Addr} {T : List (List Int)} (h : Row1 H rs T) : Row1 (upd H p o) rs T := Paired.mono (fun _ _ q => tp_upd hp hn q) h
theorem lst_tup (ys : List V) : ∀ xs : List V, (HO.lst ys) ≠ .tup xs := fun xs z => by cases z
theorem L2t.snoc {H : Hp} {D q : Addr} {rs : List Addr} {T : List (List Int)} {w : Wk} (hD : H D = some (.lst (rs.map V.ref))) (h : Row1 H rs T) (hq : Tp H q w) : L2t (upd H D (.lst (rs.map V.ref ++ [.ref q]))) D (T ++ [w]) :=
  ⟨rs ++ [q], by rw [upd_same, List.map_append]; rfl, row1_append (row1_upd hD (lst_tup _) h) (tp_upd hD (lst_tup _) hq)⟩
theorem take_filter {T : List (List Int)} {ok : Wk → Int → Bool} {w : Wk} {l : List Int} {i : Nat} {y : Int} (h : l[i]? = some y) :
    ((l.take (i + 1)).filter (ok w)).map (fun b => w ++ [b]) = ((l.take i).filter (ok w)).map (fun b => w ++ [b]) ++ (if ok w y = true then [w ++ [y]] else []) := by
  rw [List.take_add_one, h, List.filter_append, List.map_append]
  congr 1
  show ((Option.toList (some y)).filter (ok w)).map _ = _
  by_cases c : ok w y = true
  · rw [if_pos c]
    simp [c]
  · rw [if_neg c]
    simp [c]
section
variable {K : PySem.W.Frag}
/-- [row + (b,) for b in T[row[-1]] if ok] -/
theorem ext_lc {T : List (List Int)} {H : Hp} {rw_ r : Addr} {w : Wk} {ok : Wk → Int → Bool} {tt : TT} {tIt : TE} {o0 o1 o2 o3 o4 o5 o7 : Option V} {Q : VK}
    (hr : Tp H r w) (hrow : Tp H rw_ (rowAt T (lastI w))) (hw : w ≠ []) (hl : w.length < 60) (rl : (rowAt T (lastI w)).length ≤ 6)
    (hit : ∀ Q : VK, Q (.ref rw_) H → tIt [o0, o1, o2, o3, o4, o5, some (.ref r), o7] H Q)
    (htt : ∀ (y : Int) (Hc : Hp) (Qb : Bool → Hp → Prop), Tp Hc r w → Qb (ok w y) Hc → tt [o0, o1, o2, o3, o4, o5, some (.ref r), some (.int y)] Hc Qb)
    (hQ : ∀ (H' : Hp) (D : Addr), Same H H' → L2t H' D (ext T ok w) → Q (.ref D) H') :
    tLc (iTup K tIt) (gName 7) tt (tOp (rCatT K) (tVar 6) (tTup (tCons (tVar 7) tNil))) [7] [o0, o1, o2, o3, o4, o5, some (.ref r), o7] H Q := by
  refine hit _ ⟨rw_, rfl, ⟨_, SqT.of hrow⟩, fun D hD => lc_tup (K := K) (a := rw_) (xs := (rowAt T (lastI w)).map V.int)
    (fun i Hc => Same H Hc ∧ L2t Hc D ((((rowAt T (lastI w)).take i).filter (ok w)).map fun b => w ++ [b])) ⟨same_new hD, [], upd_same, .nil⟩ (fun i Hc _ p => SqT.of (p.1 _ _ hrow)) ?_ ?_⟩
  · rintro i x Hc hx ⟨sm, L⟩
    rw [List.getElem?_map] at hx
    obtain ⟨y, hy, rfl⟩ := Option.map_eq_some_iff.mp hx
    have hil : i < (rowAt T (lastI w)).length := (List.getElem?_eq_some_iff.mp hy).1
    refine ⟨rfl, htt y Hc _ (sm _ _ hr) ?_⟩
    have e0 := take_filter (T := T) (ok := ok) (w := w) hy
    by_cases c : ok w y = true
    · rw [if_pos c] at e0
      refine itP c ?_
      obtain ⟨rs, e, row1⟩ := L
      have lrs : rs.length ≤ 6 := by
        rw [row1.length, List.length_map]
        have := List.length_filter_le (ok w) ((rowAt T (lastI w)).take i)
        rw [List.length_take] at this
        omega
      refine ⟨_, rfl, _, rfl, (by show 1 ≤ sizeLine; decide), fun t ht => ⟨r, t, _, _, rfl, rfl, SqT.of (same_new ht _ _ (sm _ _ hr)), SqT.of upd_same, (by simpa using hw), Nat.le_of_lt (small64 (by rw [List.length_map]; show w.length + 1 ≤ 64; omega)), fun z => (by cases z), fun _ q hq => ?_⟩⟩
      have s2 := (same_new (o := HO.tup [V.int y]) ht).new (o := HO.tup (w.map V.int ++ [V.int y])) hq
      refine ⟨_, s2 _ _ e, small64 (by rw [List.length_map]; omega), (sm.trans s2).wr hD, ?_⟩
      rw [e0]
      refine L2t.snoc (s2 _ _ e) (row1.same s2) ?_
      show upd _ q _ q = _
      rw [upd_same, List.map_append]
      rfl
    · rw [if_neg c, List.append_nil] at e0
      refine itN c ⟨sm, ?_⟩
      rw [e0]
      exact L
  · rintro Hc ⟨sm, L⟩
    rw [List.length_map, List.take_length] at L
    exact hQ Hc D sm L
end
section
variable {P : Program} {w : World} {K : PySem.W.Frag} {mg : Str → Option Value} {base : Heap}
def spWalks : Sp := fun vs H Q _ => ∃ (a : Addr) (T : List (List Int)) (p : Int), vs = [.ref a, .int p, .int 3] ∧ T2 H a T ∧ Tour T ∧ Pl T p ∧ ∀ (H' : Hp) (l : Addr), Same H H' → L2t H' l (rowsK T okAll [[p]] 3) → Q (.ref l) H'
abbrev nWk : List Str := ["_law_tournament_here", "_law_player", "_law_steps", "_law_rows_here", "_law_turn", "_law_longer", "_law_row", "_law_beaten"]
theorem scWk : FnScope nWk ["_law_tournament_here", "_law_player", "_law_steps"] (defScope s_law_walks) := ⟨rfl, rfl, rfl, by decide +kernel, rfl, by decide +kernel, by decide +kernel⟩
theorem df_walks (S : Stands K mg "_law_walks" s_law_walks) (T : Tx mg) : Df P w K mg base "_law_walks" 1 ["_law_tournament_here", "_law_player", "_law_steps"] spWalks := by
  refine df_mk S scWk (fun _ _ _ _ _ _ us hl => match us, hl with | [_, _, _], _ => rfl) (fun vs H Q E h => ?_) (fun f cdv A outer s0 H vs Q E hr h => ?_)
  · obtain ⟨a, M, p, rfl, _⟩ := h
    rfl
  · obtain ⟨a, M, p, rfl, hT, tour, pp, hQ⟩ := h
    refine ⟨_, pss_cons (ps_set (i := 3) scWk.nd rfl (Or.inl rfl) (pe_lst (pa_cons (pe_tup (pa_cons (pv 1) pa_nil)) pa_nil)))
      (pss_cons (ps_for PassesOwn.never rfl (pi_range1 (by rfl) T.range (pa_cons (pv 2) pa_nil)) (pg_name (i := 4) scWk.nd rfl (Or.inl rfl))
        (pss_cons (ps_set (i := 5) scWk.nd rfl (Or.inl rfl) (pe_lst pa_nil))
        (pss_cons (ps_for PassesOwn.never rfl (pi_list (pv 3)) (pg_name (i := 6) scWk.nd rfl (Or.inr rfl))
          (pss_one (ps_set (i := 5) scWk.nd rfl (Or.inl rfl) (pe_op op_cat (pv 5)
            (pe_lc (own := [("_law_beaten", 7)]) (g := gName 7) (tt := tYes) rfl scWk.nd (pi_tup (pe_ix ix_tup (pv 0) (pe_ix ix_tup (pv 6) (pe_un un_neg pe_int) (fun _ _ => rfl)) (fun _ _ => rfl))) (blkOk_by (N := nWk) (sc := defScope s_law_walks) (by decide +kernel))
              (fun _ _ _ _ _ => pg_name (i := 7) scWk.nd rfl (Or.inl rfl)) (fun _ _ _ _ _ => pts_nil)
              (fun _ _ _ _ _ => pe_op (r := rCatT K) op_catT (pv 6) (pe_tup (pa_cons (pv 7) pa_nil))))))))
        (pss_one (ps_set (i := 3) scWk.nd rfl (Or.inl rfl) (pv 5))))))
      (pss_one (ps_ret (pv 3)))), ?_⟩
    refine ⟨_, rfl, (by show 1 ≤ sizeLine; decide), fun t0 h0 => ⟨(by show 1 ≤ sizeLine; decide), fun R0 hR0 => ?_⟩⟩
    have nt : t0 ≠ R0 := fun z => by rw [← z, upd_same] at hR0; cases hR0
    have smA := (same_new (o := HO.tup [V.int p]) h0).new (o := HO.lst [V.ref t0]) hR0
    refine ⟨_, rfl, _, rfl, (by decide), (by decide), for_range (lo := 0) (n := (3 : Int).toNat) (fun i σ H' => Same H H' ∧ ∃ (R : Addr) (o4 o5 o6 : Option V), L2t H' R (rowsK M okAll [[p]] i) ∧ σ = [some (.ref a), some (.int p), some (.int 3), some (.ref R), o4, o5, o6, none])
      ⟨smA, R0, none, none, none, ⟨[t0], upd_same, .cons (by show upd _ _ _ t0 = _; rw [upd_ne nt, upd_same]; rfl) .nil⟩, rfl⟩ ?_ ?_⟩
    · rintro i σ H' hi ⟨sm, R, o4, o5, o6, ⟨rs, hR, row1⟩, rfl⟩
      have hi3 : i < 3 := hi
      have rsl : rs.length = (rowsK M okAll [[p]] i).length := row1.length
      have rl6 : rs.length ≤ 216 := by
        rw [rsl]
        have := rowsK_len tour okAll (rows := [[p]]) i
        have e : 6 ^ i ≤ 6 ^ 3 := Nat.pow_le_pow_right (by decide) (by omega)
        rw [List.length_singleton, Nat.mul_one] at this
        omega
      refine ⟨(by show 0 ≤ sizeLine; decide), fun Lg hLg => ?_⟩
      have smL : Same H' (upd H' Lg (.lst [])) := same_new hLg
      refine ⟨_, rfl, R, rfl, ⟨_, SqL.of (smL _ _ hR)⟩, for_list (K := K) (a := R) (xs := rs.map V.ref) (fun j σ Hj => Same H' Hj ∧ ∃ (L : Addr) (o6 : Option V), L2t Hj L (stepR M okAll ((rowsK M okAll [[p]] i).take j)) ∧
          σ = [some (.ref a), some (.int p), some (.int 3), some (.ref R), some (.int (0 + (i : Int))), some (.ref L), o6, none]) ⟨smL, Lg, o6, ⟨[], upd_same, .nil⟩, rfl⟩ (fun j σ Hj _ q => SqL.of (q.1 _ _ hR)) ?_ ?_⟩
      · rintro j x σ Hj hx ⟨smj, L, o6, hL, rfl⟩
        rw [List.getElem?_map] at hx
        obtain ⟨r, hr', rfl⟩ := Option.map_eq_some_iff.mp hx
        have hjl : j < rs.length := (List.getElem?_eq_some_iff.mp hr').1
        obtain ⟨wr, hwr, htr⟩ := paired_getL row1 hr'
        have htr : Tp H' r wr := htr
        have mwr := List.mem_of_getElem? hwr
        have lw := rowsK_ne (ok := okAll) (T := M) (rows := [[p]]) (fun w m => by rw [List.mem_singleton.mp m]; rfl) i wr mwr
        have pw := rowsK_pl tour (ok := okAll) (rows := [[p]]) (fun w m => by rw [List.mem_singleton.mp m]; exact pp) i wr mwr
        have hne : wr ≠ [] := fun z => by rw [z] at lw; cases lw
        obtain ⟨xs, rw_, g1, g2, g3⟩ := (hT.same (sm.trans smj)).row pw
        have g3' : Tp Hj rw_ (rowAt M (lastI wr)) := g3
        refine ⟨_, rfl, ext_lc (K := K) (T := M) (w := wr) (ok := okAll) (smj _ _ htr) g3' hne (by omega) (row_len tour _) (fun Q q => ⟨_, rfl, _, rfl, 1, rfl, r, _, _, _, rfl, rfl, SqT.of (smj _ _ htr), at_last hne, a, xs, _, _, rfl, rfl, SqT.of g1, g2, q⟩) (fun y Hc Qb _ q => q) (fun H2 D sm2 hD => ?_)⟩
        obtain ⟨rsL, eL, rowL⟩ := hL.same sm2
        obtain ⟨rsD, eD, rowD⟩ := hD
        have lL : rsL.length ≤ 1296 := by
          rw [rowL.length]
          have := stepR_len tour okAll ((rowsK M okAll [[p]] i).take j)
          rw [List.length_take] at this
          omega
        have lD : rsD.length ≤ 6 := by
          rw [rowD.length]
          exact ext_len tour _ _
        refine ⟨L, D, _, _, rfl, rfl, eL, eD, by rw [List.length_map, List.length_map, sizeLine_eq]; omega, fun q hq => ?_⟩
        refine ⟨smj.trans (sm2.new hq), q, _, ⟨rsL ++ rsD, by rw [upd_same, List.map_append], ?_⟩, rfl⟩
        rw [stepR_take hwr]
        exact paired_append (Row1.same (same_new hq) rowL) (Row1.same (same_new hq) rowD)
      · rintro σ Hj ⟨smj, L, o6, hL, rfl⟩
        rw [List.length_map, rsl, List.take_length] at hL
        exact ⟨_, rfl, sm.trans smj, L, _, _, _, hL, rfl⟩
    · rintro σ H' ⟨sm, R, o4, o5, o6, hL, rfl⟩
      exact ⟨_, rfl, hQ H' R sm hL⟩
def spRows : Sp := fun vs H Q _ => ∃ (a : Addr) (T : List (List Int)), vs = [.ref a, .int 3] ∧ T2 H a T ∧ Tour T ∧ ∀ (H' : Hp) (l : Addr), Same H H' → L2t H' l (rowsK T okNew (ones T) 2) → Q (.ref l) H'
abbrev nRw : List Str := ["_law_tournament_here", "_law_many", "_law_rows_here", "_law_turn", "_law_longer", "_law_player", "_law_row", "_law_beaten"]
theorem scRw : FnScope nRw ["_law_tournament_here", "_law_many"] (defScope s_law_rows) := ⟨rfl, rfl, rfl, by decide +kernel, rfl, by decide +kernel, by decide +kernel⟩
theorem ones_take {T : List (List Int)} {i : Nat} (h : i < T.length) : (ones T).take (i + 1) = (ones T).take i ++ [[(i : Int)]] := by
  unfold ones
  rw [List.take_add_one, List.getElem?_map, List.getElem?_range h]
  rfl
theorem df_rows (S : Stands K mg "_law_rows" s_law_rows) (T : Tx mg) : Df P w K mg base "_law_rows" 1 ["_law_tournament_here", "_law_many"] spRows := by
  refine df_mk S scRw (fun _ _ _ _ _ _ us hl => match us, hl with | [_, _], _ => rfl) (fun vs H Q E h => ?_) (fun f cdv A outer s0 H vs Q E hr h => ?_)
  · obtain ⟨a, M, rfl, _⟩ := h
    rfl
  · obtain ⟨a, M, rfl, hT, tour, hQ⟩ := h
    obtain ⟨ra, hra, lra⟩ := id hT.len
    have t6 := tour.most
    refine ⟨_, pss_cons (ps_setLc (i := 2) (own := [("_law_player", 5)]) (g := gName 5) (tt := tYes) rfl scRw.nd rfl rfl (sw_true rfl rfl rfl (by decide +kernel)) (pi_range1 (by rfl) T.range (pa_cons (pe_callB call_len_seq (by rfl) T.len PySem.boot_len (pa_cons (pv 0) pa_nil)) pa_nil)) (blkOk_by (N := nRw) (sc := defScope s_law_rows) (by decide +kernel))
        (fun _ _ _ _ _ => pg_name (i := 5) scRw.nd rfl (Or.inl rfl)) (fun _ _ _ _ _ => pts_nil) (fun _ _ _ _ _ => pe_tup (pa_cons (pv 5) pa_nil)))
      (pss_cons (ps_for PassesOwn.never rfl (pi_range1 (by rfl) T.range (pa_cons (pe_op op_sub (pv 1) pe_int) pa_nil)) (pg_name (i := 3) scRw.nd rfl (Or.inl rfl))
        (pss_cons (ps_set (i := 4) scRw.nd rfl (Or.inl rfl) (pe_lst pa_nil))
        (pss_cons (ps_for PassesOwn.never rfl (pi_list (pv 2)) (pg_name (i := 6) scRw.nd rfl (Or.inr rfl))
          (pss_one (ps_set (i := 4) scRw.nd rfl (Or.inl rfl) (pe_op op_cat (pv 4)
            (pe_lc (own := [("_law_beaten", 7)]) (g := gName 7) rfl scRw.nd (pi_tup (pe_ix ix_tup (pv 0) (pe_ix ix_tup (pv 6) (pe_un un_neg pe_int) (fun _ _ => rfl)) (fun _ _ => rfl))) (blkOk_by (N := nRw) (sc := defScope s_law_rows) (by decide +kernel))
              (fun _ _ _ _ _ => pg_name (i := 7) scRw.nd rfl (Or.inl rfl)) (fun _ _ _ _ _ => pts_one (pt_cmpR (r := rIn K true) op_notIn_seq (pv 7) (pv 6) rfl))
              (fun _ _ _ _ _ => pe_op (r := rCatT K) op_catT (pv 6) (pe_tup (pa_cons (pv 7) pa_nil))))))))
        (pss_one (ps_set (i := 2) scRw.nd rfl (Or.inl rfl) (pv 4))))))
      (pss_one (ps_ret (pv 2)))), ?_⟩
    refine ⟨_, rfl, a, _, rfl, .inr (SqT.of hra), ?_⟩
    rw [lra]
    refine ⟨_, rfl, (by omega), (by omega), fun R0 hR0 => lc_range (lo := 0) (n := ((M.length : Nat) : Int).toNat) (fun i Hc => Same H Hc ∧ L2t Hc R0 ((ones M).take i)) ⟨same_new hR0, [], upd_same, .nil⟩ ?_ ?_⟩
    · rintro i Hc hi ⟨sm, rs, e, row1⟩
      rw [Int.toNat_natCast] at hi
      have z0 : (0 : Int) + (i : Int) = (i : Int) := by omega
      rw [z0]
      refine ⟨rfl, _, rfl, (by show 1 ≤ sizeLine; decide), fun t ht => ?_⟩
      have s2 := same_new (o := HO.tup [V.int (i : Int)]) ht
      have lrs : rs.length ≤ 6 := by
        rw [row1.length, List.length_take]
        omega
      refine ⟨_, s2 _ _ e, small64 (by rw [List.length_map]; omega), (sm.trans s2).wr hR0, ?_⟩
      rw [ones_take hi]
      exact L2t.snoc (s2 _ _ e) (row1.same s2) upd_same
    rintro HA ⟨smA, hLA⟩
    rw [Int.toNat_natCast, show M.length = (ones M).length by simp [ones], List.take_length] at hLA
    refine ⟨_, rfl, _, _, rfl, rfl, _, rfl, (by decide), (by decide), for_range (lo := 0) (n := ((3 : Int) - 1).toNat) (fun i σ H' => Same H H' ∧ ∃ (R : Addr) (o3 o4 o6 : Option V), L2t H' R (rowsK M okNew (ones M) i) ∧ σ = [some (.ref a), some (.int 3), some (.ref R), o3, o4, none, o6, none])
      ⟨smA, R0, none, none, none, hLA, rfl⟩ ?_ ?_⟩
    · rintro i σ H' hi ⟨sm, R, o3, o4, o6, ⟨rs, hR, row1⟩, rfl⟩
      have hi3 : i < 2 := hi
      have l1 : (ones M).length ≤ 6 := by simp [ones]; omega
      have rsl : rs.length = (rowsK M okNew (ones M) i).length := row1.length
      have rl6 : rs.length ≤ 216 := by
        rw [rsl]
        have := rowsK_len tour okNew (rows := ones M) i
        have e : 6 ^ i ≤ 6 ^ 2 := Nat.pow_le_pow_right (by decide) (by omega)
        have := Nat.mul_le_mul e l1
        omega
      refine ⟨(by show 0 ≤ sizeLine; decide), fun Lg hLg => ?_⟩
      have smL : Same H' (upd H' Lg (.lst [])) := same_new hLg
      refine ⟨_, rfl, R, rfl, ⟨_, SqL.of (smL _ _ hR)⟩, for_list (K := K) (a := R) (xs := rs.map V.ref) (fun j σ Hj => Same H' Hj ∧ ∃ (L : Addr) (o6 : Option V), L2t Hj L (stepR M okNew ((rowsK M okNew (ones M) i).take j)) ∧
          σ = [some (.ref a), some (.int 3), some (.ref R), some (.int (0 + (i : Int))), some (.ref L), none, o6, none]) ⟨smL, Lg, o6, ⟨[], upd_same, .nil⟩, rfl⟩ (fun j σ Hj _ q => SqL.of (q.1 _ _ hR)) ?_ ?_⟩
      · rintro j x σ Hj hx ⟨smj, L, o6, hL, rfl⟩
        rw [List.getElem?_map] at hx
        obtain ⟨r, hr', rfl⟩ := Option.map_eq_some_iff.mp hx
        have hjl : j < rs.length := (List.getElem?_eq_some_iff.mp hr').1
        obtain ⟨wr, hwr, htr⟩ := paired_getL row1 hr'
        have htr : Tp H' r wr := htr
        have mwr := List.mem_of_getElem? hwr
        have lw := rowsK_ne (ok := okNew) (T := M) (rows := ones M) (fun w m => by obtain ⟨x, rfl, _⟩ := mem_ones m; rfl) i wr mwr
        have pw := rowsK_pl tour (ok := okNew) (rows := ones M) (fun w m => by obtain ⟨x, rfl, p⟩ := mem_ones m; exact p) i wr mwr
        have hne : wr ≠ [] := fun z => by rw [z] at lw; cases lw
        obtain ⟨xs, rw_, g1, g2, g3⟩ := (hT.same (sm.trans smj)).row pw
        have g3' : Tp Hj rw_ (rowAt M (lastI wr)) := g3
        refine ⟨_, rfl, ext_lc (K := K) (T := M) (w := wr) (ok := okNew) (smj _ _ htr) g3' hne (by omega) (row_len tour _) (fun Q q => ⟨_, rfl, _, rfl, 1, rfl, r, _, _, _, rfl, rfl, SqT.of (smj _ _ htr), at_last hne, a, xs, _, _, rfl, rfl, SqT.of g1, g2, q⟩) (fun y Hc Qb tq q => ⟨_, rfl, _, rfl, r, _, rfl, .inr (SqT.of tq), rfl, flat_int, _, rfl, ?_⟩) (fun H2 D sm2 hD => ?_)⟩
        · rw [mem_int]
          exact q
        obtain ⟨rsL, eL, rowL⟩ := hL.same sm2
        obtain ⟨rsD, eD, rowD⟩ := hD
        have lL : rsL.length ≤ 1296 := by
          rw [rowL.length]
          have := stepR_len tour okNew ((rowsK M okNew (ones M) i).take j)
          rw [List.length_take] at this
          omega
        have lD : rsD.length ≤ 6 := by
          rw [rowD.length]
          exact ext_len tour _ _
        refine ⟨L, D, _, _, rfl, rfl, eL, eD, by rw [List.length_map, List.length_map, sizeLine_eq]; omega, fun q hq => ?_⟩
        refine ⟨smj.trans (sm2.new hq), q, _, ⟨rsL ++ rsD, by rw [upd_same, List.map_append], ?_⟩, rfl⟩
        rw [stepR_take hwr]
        exact paired_append (Row1.same (same_new hq) rowL) (Row1.same (same_new hq) rowD)
      · rintro σ Hj ⟨smj, L, o6, hL, rfl⟩
        rw [List.length_map, rsl, List.take_length] at hL
        exact ⟨_, rfl, sm.trans smj, L, _, _, _, hL, rfl⟩
    · rintro σ H' ⟨sm, R, o3, o4, o6, hL, rfl⟩
      exact ⟨_, rfl, hQ H' R sm hL⟩
end
end RB
/-! the law's triangles: _law_triangles -/
namespace RB
open PySem PySem.Spec PyProof.Rows L2
theorem WV.refs {H : Hp} {vs : List V} {ts : List Wk} (h : WV H vs ts) : ∃ rs : List Addr, vs = rs.map V.ref ∧ Row1 H rs ts := by
  induction h with
  | nil => exact ⟨[], rfl, .nil⟩
  | cons r t ih =>
    obtain ⟨a, rfl, q⟩ := r
    obtain ⟨rs, rfl, p⟩ := ih
    exact ⟨a :: rs, rfl, .cons q p⟩
theorem Row1.wv {H : Hp} {rs : List Addr} {ts : List Wk} (h : Row1 H rs ts) : WV H (rs.map V.ref) ts := by
  induction h with
  | nil => exact .nil
  | cons r t ih => exact .cons ⟨_, rfl, r⟩ ih
theorem sub_snoc {α : Type} {l m : List α} {i : Nat} {x : α} (h : m.Sublist (l.take i)) (e : l[i]? = some x) : (m ++ [x]).Sublist (l.take (i + 1)) ∧ m.Sublist (l.take (i + 1)) := by
  rw [List.take_add_one, e]
  exact ⟨h.append (.refl _), h.trans (List.sublist_append_left _ _)⟩
section
variable {P : Program} {w : World} {K : PySem.W.Frag} {mg : Str → Option Value} {base : Heap}
def Tri (T : List (List Int)) (w : Wk) : Prop := ∃ x y z, w = [x, y, z] ∧ Pl T x ∧ y ∈ rowAt T x ∧ z ∈ rowAt T y ∧ x ∈ rowAt T z
def spTri : Sp := fun vs H Q _ => ∃ (a : Addr) (T : List (List Int)), vs = [.ref a] ∧ T2 H a T ∧ Tour T ∧ ∀ (H' : Hp) (l : Addr) (ts : List Wk), Same H H' → L2t H' l ts → (∀ w ∈ ts, Tri T w) → ts.length < 64 → Q (.ref l) H'
abbrev nTr : List Str := ["_law_tournament_here", "_law_found", "_law_row"]
theorem scTr : FnScope nTr ["_law_tournament_here"] (defScope s_law_triangles) := ⟨rfl, rfl, rfl, by decide +kernel, rfl, by decide +kernel, by decide +kernel⟩
theorem df_tri (S : Stands K mg "_law_triangles" s_law_triangles) (T : Tx mg) (Dr : Df P w K mg base "_law_rows" 1 ["_law_tournament_here", "_law_many"] spRows) : Df P w K mg base "_law_triangles" 2 ["_law_tournament_here"] spTri := by
  refine df_mk S scTr (fun _ _ _ _ _ _ us hl => match us, hl with | [_], _ => rfl) (fun vs H Q E h => ?_) (fun f cdv A outer s0 H vs Q E hr h => ?_)
  · obtain ⟨a, M, rfl, _⟩ := h
    rfl
  · obtain ⟨a, M, rfl, hT, tour, hQ⟩ := h
    refine ⟨_, pss_cons (ps_setLc (i := 1) (own := [("_law_row", 2)]) (g := gName 2) rfl scTr.nd rfl rfl (sw_true rfl rfl rfl (by decide +kernel)) (pi_list (pcall Dr hr (pa_cons (pv 0) (pa_cons pe_int pa_nil)))) (blkOk_by (N := nTr) (sc := defScope s_law_triangles) (by decide +kernel))
        (fun _ _ _ _ _ => pg_name (i := 2) scTr.nd rfl (Or.inl rfl))
        (fun _ _ _ _ _ => pts_one (pt_cmpR (r := rIn K false) op_in_seq (pe_ix (r := rIxT K) ix_tup (pv 2) pe_int (fun _ _ => rfl)) (pe_ix (r := rIxT K) ix_tup (pv 0) (pe_ix (r := rIxT K) ix_tup (pv 2) pe_int (fun _ _ => rfl)) (fun _ _ => rfl)) rfl))
        (fun _ _ _ _ _ => pv 2))
      (pss_one (ps_ret (pe_callB cr_sortW (by rfl) T.sorted (by decide +kernel) (pa_cons
        (pe_lc (own := [("_law_row", 2)]) (g := gName 2) rfl scTr.nd (pi_list (pv 1)) (blkOk_by (N := nTr) (sc := defScope s_law_triangles) (by decide +kernel))
          (fun _ _ _ _ _ => pg_name (i := 2) scTr.nd rfl (Or.inl rfl))
          (fun _ _ _ _ _ => pts_one (pt_cmpR op_eq (pe_ix (r := rIxT K) ix_tup (pv 2) pe_int (fun _ _ => rfl)) (pe_callB (r := rMinT K) (cr_minT rfl) (by rfl) T.min (by decide +kernel) (pa_cons (pv 2) pa_nil)) (nomark _)))
          (fun _ _ _ _ _ => pv 2)) pa_nil)))), ?_⟩
    have t6 := tour.most
    have l1 : (ones M).length ≤ 6 := by simp [ones]; omega
    have lR := rowsK_len tour okNew (rows := ones M) 2
    have lR' : (rowsK M okNew (ones M) 2).length ≤ 216 := by
      have := Nat.mul_le_mul (Nat.le_refl (6 ^ 2)) l1
      omega
    have nR : (rowsK M okNew (ones M) 2).Nodup := stepR_nodup tour _ (stepR_nodup tour _ (ones_nodup M))
    refine ⟨_, rfl, a, M, rfl, hT, tour, fun H1 R sm1 ⟨rs, hR, row1⟩ => ?_⟩
    have rsl := row1.length
    -- the triangles
    refine ⟨R, rfl, ⟨_, SqL.of hR⟩, fun D hD => lc_list (K := K) (a := R) (xs := rs.map V.ref) (fun i Hc => Same H1 Hc ∧ ∃ ts : List Wk, L2t Hc D ts ∧ ts.Sublist ((rowsK M okNew (ones M) 2).take i) ∧ ∀ w ∈ ts, Tri M w)
      ⟨same_new hD, [], ⟨[], upd_same, .nil⟩, .slnil, fun w m => absurd m (by simp)⟩ (fun i Hc _ p => SqL.of (p.1 _ _ hR)) ?_ ?_⟩
    · rintro i v Hc hx ⟨sm, ts, ⟨us, eD, rowD⟩, sub, tri⟩
      rw [List.getElem?_map] at hx
      obtain ⟨r, hr', rfl⟩ := Option.map_eq_some_iff.mp hx
      obtain ⟨wr, hwr, htr⟩ := paired_getL row1 hr'
      have htr : Tp Hc r wr := sm _ _ htr
      obtain ⟨x, y, z, rfl, px, hy, hz, n1, n2⟩ := rows3 tour (List.mem_of_getElem? hwr)
      obtain ⟨xs, rw_, g1, g2, g3⟩ := (hT.same (sm1.trans sm)).row (tour.beaten hz)
      refine ⟨rfl, _, rfl, r, _, _, _, rfl, rfl, SqT.of htr, rfl, _, rfl, _, rfl, r, _, _, _, rfl, rfl, SqT.of htr, rfl, a, xs, _, _, rfl, rfl, SqT.of g1, g2, rw_, _, rfl, .inr (SqT.of g3), rfl, flat_int, _, rfl, ?_⟩
      show if (inV (.int x) ((rowAt M z).map V.int)) = true then _ else _
      rw [mem_int]
      have lus : us.length ≤ 216 := by
        rw [rowD.length]
        have := sub.length_le
        rw [List.length_take] at this
        omega
      refine ite2 (fun c => ?_) (fun c => ?_)
      · have c : x ∈ rowAt M z := by simpa using c
        refine ⟨_, rfl, _, eD, by rw [List.length_map, sizeLine_eq]; omega, sm.wr hD, ts ++ [[x, y, z]], L2t.snoc eD rowD htr, (sub_snoc sub hwr).1, fun w m => ?_⟩
        rcases List.mem_append.mp m with m | m
        · exact tri w m
        · exact ⟨x, y, z, List.mem_singleton.mp m, px, hy, hz, c⟩
      · exact ⟨sm, ts, ⟨us, eD, rowD⟩, (sub_snoc sub hwr).2, tri⟩
    rintro H2 ⟨sm2, ts, ⟨us, eD, rowD⟩, sub, tri⟩
    rw [List.length_map, rsl, List.take_length] at sub
    have usl := rowD.length
    -- each once
    refine ⟨_, rfl, D, rfl, ⟨_, SqL.of eD⟩, fun D2 hD2 => lc_list (K := K) (a := D) (xs := us.map V.ref) (fun i Hc => Same H2 Hc ∧ ∃ qs : List Wk, L2t Hc D2 qs ∧ qs.Sublist (ts.take i) ∧ ∀ w ∈ qs, ∃ x y z, w = [x, y, z] ∧ Pl M x ∧ y ∈ rowAt M x ∧ z ∈ rowAt M y ∧ x < y ∧ x < z)
      ⟨same_new hD2, [], ⟨[], upd_same, .nil⟩, .slnil, fun w m => absurd m (by simp)⟩ (fun i Hc _ p => SqL.of (p.1 _ _ eD)) ?_ ?_⟩
    · rintro i v Hc hx ⟨sm, qs, ⟨vs, eD2, rowD2⟩, sub2, tri2⟩
      rw [List.getElem?_map] at hx
      obtain ⟨r, hr', rfl⟩ := Option.map_eq_some_iff.mp hx
      obtain ⟨wr, hwr, htr⟩ := paired_getL rowD hr'
      have htr : Tp Hc r wr := sm _ _ htr
      have mwr := List.mem_of_getElem? hwr
      obtain ⟨x, y, z, rfl, px, hy, hz, n1, n2⟩ := rows3 tour (sub.subset mwr)
      have lvs : vs.length ≤ 216 := by
        rw [rowD2.length]
        have h1 := sub2.length_le
        have h2 := sub.length_le
        rw [List.length_take] at h1
        omega
      refine ⟨rfl, _, rfl, r, _, _, _, rfl, rfl, SqT.of htr, rfl, _, rfl, r, [x, y, z], rfl, SqT.of htr, (by show 0 < 3; decide), fun m hm1 hm2 => ⟨rfl, _, rfl, ite2 (fun c => ?_) (fun c => ?_)⟩⟩
      · have c : x = m := by simpa using c
        subst c
        have h1 := hm2 y (by simp)
        have h2 := hm2 z (by simp)
        refine ⟨_, rfl, _, eD2, by rw [List.length_map, sizeLine_eq]; omega, sm.wr hD2, qs ++ [[x, y, z]], L2t.snoc eD2 rowD2 htr, (sub_snoc sub2 hwr).1, fun w mw => ?_⟩
        rcases List.mem_append.mp mw with mw | mw
        · exact tri2 w mw
        · exact ⟨x, y, z, List.mem_singleton.mp mw, px, hy, hz, by omega, by omega⟩
      · exact ⟨sm, qs, ⟨vs, eD2, rowD2⟩, (sub_snoc sub2 hwr).2, tri2⟩
    rintro H3 ⟨sm3, qs, ⟨vs, eD2, rowD2⟩, sub2, tri2⟩
    rw [List.length_map, usl, List.take_length] at sub2
    have l64 := trips_most tour (sub2.nodup (sub.nodup nR)) tri2
    have vsl := rowD2.length
    refine ⟨3, by decide, D2, _, rfl, SqL.of eD2, by rw [List.length_map]; omega, fun v mv => ?_, fun ys p perm pw hp => ?_⟩
    · obtain ⟨i, hi⟩ := List.getElem?_of_mem mv
      rw [List.getElem?_map] at hi
      obtain ⟨r, hr', rfl⟩ := Option.map_eq_some_iff.mp hi
      obtain ⟨wr, hwr, htr⟩ := paired_getL rowD2 hr'
      obtain ⟨x, y, z, rfl, px, hy, hz, _⟩ := tri2 wr (List.mem_of_getElem? hwr)
      refine ⟨_, ⟨r, rfl, SqT.of htr⟩, rfl, pl_bd tour fun u mu => ?_⟩
      rcases List.mem_cons.mp mu with e | mu
      · exact e ▸ px
      · rcases List.mem_cons.mp mu with e | mu
        · exact e ▸ tour.beaten hy
        · exact List.mem_singleton.mp mu ▸ tour.beaten hz
    · obtain ⟨qs', pq, wy⟩ := paired_perm perm.symm rowD2.wv
      obtain ⟨rs', rfl, row'⟩ := WV.refs wy
      refine hQ _ p qs' ((sm1.trans sm2).trans (sm3.new hp)) ⟨rs', upd_same, row'.same (same_new hp)⟩ (fun w m => tri w (sub2.subset (pq.mem_iff.mp m))) ?_
      rw [pq.length_eq]
      exact l64
end
end RB
/-! the law -/
namespace RB
open PySem PySem.Spec PyProof.Rows L2
/-! ### data -/
def dLT (T : List (List Int)) : PyData := .list (T.map dTI)
theorem L2t.dp {K : PySem.W.Frag} {H : Hp} {a : Addr} {T : List (List Int)} (h : L2t H a T) : Dp K H (.ref a) (dLT T) := by
  obtain ⟨rs, e, p⟩ := h
  exact .lst (SqL.of e) (dp_rows p)
theorem shaped_lt (T : List (List Int)) : SeqAt.shaped (dLT T) = true := by
  obtain ⟨h1, h2⟩ := lay_rows T
  unfold SeqAt.shaped
  have e1 : (dLT T).canLay0 = true := h1
  have e2 : decide ((dLT T).depth ≤ 64) = true := decide_eq_true (by show PyData.depthAll (T.map dTI) + 1 ≤ 64; omega)
  rw [e1, e2]
  rfl
theorem eqv_lt {T : List (List Int)} (h : PyData.eqv (dLT T) (.list []) = true) : T = [] := by
  unfold dLT at h
  rw [PyData.eqv] at h
  exact eqv_rows (S := T) (T := []) h
theorem eqv_lt0 : PyData.eqv (dLT []) (.list []) = true := by
  unfold dLT
  rw [PyData.eqv]
  rfl
theorem eqv_nn : PyData.eqv .none .none = true := by rw [PyData.eqv]
theorem eqv_same : ∀ u : List Int, PyData.eqvAll (u.map PyData.int) (u.map PyData.int) = true
  | [] => rfl
  | x :: u => by
    show PyData.eqvAll (PyData.int x :: u.map PyData.int) (PyData.int x :: u.map PyData.int) = true
    rw [PySem.W.eqv_all_cons, eqv_same u, PyData.eqv]
    simp
theorem eqv_tt_same (u : List Int) : PyData.eqv (dTI u) (dTI u) = true := by
  unfold dTI
  rw [PyData.eqv]
  exact eqv_same u
theorem dp_ti {K : PySem.W.Frag} {H : Hp} {a : Addr} {u : List Int} (h : Tp H a u) : Dp K H (.ref a) (dTI u) := .tup (SqT.of h) (dp_ints _)
theorem DB.upd {H : Hp} {d p : Addr} {b : Bst} {ys zs : List V} (h : DB H d b) (hp : H p = some (.lst ys)) : DB (L2.upd H p (.lst zs)) d b := by
  obtain ⟨kvs, e, kb⟩ := h
  exact ⟨kvs, by rw [upd_ne (ne_of e hp fun z => by cases z)]; exact e, kb.upd hp (lst_tup _)⟩
theorem WV.sameT {H H' : Hp} (s : SameT H H') {vs : List V} {ws : List Wk} (h : WV H vs ws) : WV H' vs ws := Paired.mono (fun _ _ ⟨a, q, t⟩ => ⟨a, q, s _ _ t⟩) h
theorem Row1.sameT {H H' : Hp} (s : SameT H H') {rs : List Addr} {T : List (List Int)} (h : Row1 H rs T) : Row1 H' rs T := Paired.mono (fun _ _ q => s _ _ q) h
theorem SameT.updD {H : Hp} {p : Addr} {o : HO} {ks : List (Key × V)} (h : H p = some (.dK ks)) : SameT H (L2.upd H p o) := fun b xs e => by
  rw [upd_ne (ne_of e h fun z => by cases z)]
  exact e
section
variable {P : Program} {w : World} {K : PySem.W.Frag} {mg : Str → Option Value} {base : Heap}
def spLaw (K : PySem.W.Frag) : Sp := fun vs H Q _ => ∃ (a : Addr) (ns : List Int), vs = [.ref a] ∧ SqL K H a (ns.map V.int) ∧ ∀ H' : Hp, Q (.bl true) H'
abbrev nLaw : List Str := ["_law_script", "_law_stream_here", "_law_tournament_here", "_law_ringed", "_law_one", "_law_best", "_law_rows_here", "_law_turn", "_law_longer", "_law_row", "_law_beaten", "_law_other", "_law_told"]
theorem scLaw : FnScope nLaw ["_law_script"] (defScope s_law) := ⟨rfl, rfl, rfl, by decide +kernel, rfl, by decide +kernel, by decide +kernel⟩
theorem ok_mk {x : Str} {st : Stmt} {N ps : List Str} {k : Nat} {sp : Sp} {f : Addr} {fd : FuncData} (F : FnP K x st f fd) (sc : FnScope N ps (defScope st)) (len : ∀ vs H Q E, sp vs H Q E → vs.length = ps.length)
    (hbody : ∀ (f : Addr) (cdv : Value) (A : Around) (outer : List Env) (s : Shared) (H : Hp) (vs : List V) (Q : VK) (E : XK), Room k (A.deeper (envOfC x (defScope st) s.heap.objs.size f cdv)) → sp vs H Q E →
      ∃ t, PSs (cxOf CX0 P w K mg base N x (defScope st) f cdv A outer s H E).nox (defBody st) t ∧ t { nx := fun _ H' => Q .non H', rt := Q } (start N vs) H) : FnOk P w K mg base CX0 (k + 1) f fd ps sp := by
  refine FunD.ok F sc len fun cdv A outer s H vs Q E hr h => ?_
  obtain ⟨t, h1, h2⟩ := hbody f cdv A outer s H vs Q E hr h
  exact ⟨t, h1.nox, h2⟩
theorem law_ok {f0 : Addr} {fd : FuncData} (F : FnP K "law" s_law f0 fd) (T : Tx mg) (Dst : Df P w K mg base "_law_stream" 1 ["_law_script"] (spStream K)) (Dso : Df P w K mg base "_law_some" 3 ["_law_stream_here", "_law_least", "_law_most"] spTournament)
    (Dto : Df P w K mg base "told_order" 5 ["tournament"] spOrd) (Dtr : Df P w K mg base "_law_triangles" 2 ["_law_tournament_here"] spTri) (Dwa : Df P w K mg base "_law_walks" 1 ["_law_tournament_here", "_law_player", "_law_steps"] spWalks)
    (Dsh : Df P w K mg base "shortest_walk" 6 ["tournament", "one", "other"] spShort) (Dis : Df P w K mg base "is_walk" 5 ["tournament", "value"] spPath) :
    FnOk P w K mg base CX0 7 f0 fd ["_law_script"] (spLaw K) := by
  refine ok_mk F scLaw (fun vs H Q E h => ?_) (fun f cdv A outer s0 H vs Q E hr h => ?_)
  · obtain ⟨a, ns, rfl, _⟩ := h
    rfl
  · obtain ⟨a, ns, rfl, hS, hQ⟩ := h
    have hu := hu_of hr
    refine ⟨_, pss_cons (ps_set (i := 1) scLaw.nd rfl (Or.inl rfl) (pcall (Dst.mono (by decide)) hr (pa_cons (pv 0) pa_nil)))
      (pss_cons (ps_set (i := 2) scLaw.nd rfl (Or.inl rfl) (pcall (Dso.mono (by decide)) hr (pa_cons (pv 1) (pa_cons pe_int (pa_cons pe_int pa_nil)))))
      (pss_cutR (ps_set (i := 3) scLaw.nd rfl (Or.inl rfl) (pe_and (pe_cmpR op_notN (pcall (Dto.mono (by decide)) hr (pa_cons (pv 2) pa_nil)) pe_non (nomark _)) (pe_one (pe_cmpR (op_neD hr.units) (pcall (Dtr.mono (by decide)) hr (pa_cons (pv 2) pa_nil)) (pe_lst pa_nil) (nomark _)))))
      (pss_cons (ps_for PassesOwn.never rfl (pi_range1 (by rfl) T.range (pa_cons (pe_callB call_len_seq (by rfl) T.len PySem.boot_len (pa_cons (pv 2) pa_nil)) pa_nil)) (pg_name (i := 4) scLaw.nd rfl (Or.inl rfl))
        (pss_cons (ps_set (i := 5) scLaw.nd rfl (Or.inl rfl) (pe_disp (pps_cons (pv 4) (pe_tup (pa_cons (pv 4) pa_nil)) pps_nil) (by rfl) (by rfl) (fun z => by cases z) (by decide)))
        (pss_cons (ps_set (i := 6) scLaw.nd rfl (Or.inl rfl) (pe_lst (pa_cons (pe_tup (pa_cons (pv 4) pa_nil)) pa_nil)))
        (pss_cons (ps_for PassesOwn.never rfl (pi_range1 (by rfl) T.range (pa_cons (pe_callB call_len_seq (by rfl) T.len PySem.boot_len (pa_cons (pv 2) pa_nil)) pa_nil)) (pg_name (i := 7) scLaw.nd rfl (Or.inl rfl))
          (pss_cons (ps_set (i := 8) scLaw.nd rfl (Or.inl rfl) (pe_lst pa_nil))
          (pss_cons (ps_for PassesOwn.never rfl (pi_list (pv 6)) (pg_name (i := 9) scLaw.nd rfl (Or.inl rfl))
            (pss_one (ps_for PassesOwn.never rfl (pi_tup (pe_ix ix_tup (pv 2) (pe_ix ix_tup (pv 9) (pe_un un_neg pe_int) (fun _ _ => rfl)) (fun _ _ => rfl))) (pg_name (i := 10) scLaw.nd rfl (Or.inl rfl))
              (pss_one (ps_if (pt_cmp (pc_dnotin hu (pv 10) (pv 5)))
                (pss_cons (ps_dput hu (pv 5) (pv 10) (pe_op op_catT (pv 9) (pe_tup (pa_cons (pv 10) pa_nil))) rfl)
                (pss_one (ps_expr (pe_bm PySem.F.plainAttrs_list PySem.F.slot_list_append PySem.F.type_list_append mt_append (pv 8) (pa_cons (pe_op op_catT (pv 9) (pe_tup (pa_cons (pv 10) pa_nil))) pa_nil))))) pss_nil)))))
          (pss_one (ps_set (i := 6) scLaw.nd rfl (Or.inl rfl) (pe_callB cr_sortW (by rfl) T.sorted (by decide +kernel) (pa_cons (pv 8) pa_nil)))))))
        (pss_cutR (ps_if (pt_cmpR op_lt (pe_callB call_len_seq (by rfl) T.len PySem.boot_len (pa_cons (pv 2) pa_nil)) pe_int (nomark _))
          (pss_one (ps_for PassesOwn.never rfl (pi_list (pcall (Dwa.mono (by decide)) hr (pa_cons (pv 2) (pa_cons (pv 4) (pa_cons pe_int pa_nil))))) (pg_name (i := 9) scLaw.nd rfl (Or.inl rfl))
            (pss_one (ps_if (PW.pt (pw_or (pt_cmp (pc_dnotin hu (pe_ix ix_tup (pv 9) (pe_un un_neg pe_int) (fun _ _ => rfl)) (pv 5)))
                (pw_or1 (pt_cmpR (op_gtN hr.units)
                  (pe_tup (pa_cons (pe_callB call_len_seq (by rfl) T.len PySem.boot_len (pa_cons (pe_dget hu (pv 5) (pe_ix ix_tup (pv 9) (pe_un un_neg pe_int) (fun _ _ => rfl)) (fun _ _ => rfl)) pa_nil)) (pa_cons (pe_dget hu (pv 5) (pe_ix ix_tup (pv 9) (pe_un un_neg pe_int) (fun _ _ => rfl)) (fun _ _ => rfl)) pa_nil)))
                  (pe_tup (pa_cons (pe_callB call_len_seq (by rfl) T.len PySem.boot_len (pa_cons (pv 9) pa_nil)) (pa_cons (pv 9) pa_nil))) (nomark _)))))
              (pss_one (ps_ret pe_bl)) pss_nil)))) pss_nil)
        (pss_one (ps_for PassesOwn.never rfl (pi_range1 (by rfl) T.range (pa_cons (pe_callB call_len_seq (by rfl) T.len PySem.boot_len (pa_cons (pv 2) pa_nil)) pa_nil)) (pg_name (i := 11) scLaw.nd rfl (Or.inl rfl))
          (pss_cons (ps_set (i := 12) scLaw.nd rfl (Or.inl rfl) (pcall Dsh hr (pa_cons (pv 2) (pa_cons (pv 4) (pa_cons (pv 11) pa_nil)))))
          (pss_cons (ps_if (pt_cmpR (op_neD hr.units) (pv 12) (pe_dget2 hu (pv 5) (pv 11) pe_non ⟨rfl, rfl, rfl, rfl⟩) (nomark _)) (pss_one (ps_ret pe_bl)) pss_nil)
          (pss_cons (ps_if (PW.pt (pw_and (pt_cmpR op_notN (pv 12) pe_non (nomark _)) (pw_and1 (PW.pt (pw_or (pt_cmpR op_notBl (pcall (Dis.mono (by decide)) hr (pa_cons (pv 2) (pa_cons (pv 12) pa_nil))) pe_bl (nomark _))
              (pw_or1 (PW.pt (pw_and (pt_truth (pv 3) (by intro _; rfl)) (pw_and1 (pt_cmpR op_gt (pe_callB call_len_seq (by rfl) T.len PySem.boot_len (pa_cons (pv 12) pa_nil)) pe_int (nomark _))))))))))) (pss_one (ps_ret pe_bl)) pss_nil)
          (pss_one (ps_if (PW.pt (pw_and (pt_cmpR op_isN (pv 12) pe_non (nomark _)) (pw_and1 (pt_truth (pv 3) (by intro _; rfl))))) (pss_one (ps_ret pe_bl)) pss_nil))))))))))))
      (pss_one (ps_ret pe_bl))))), ?_⟩
    refine ⟨_, rfl, a, ns, rfl, hS, fun H1 s lc st => ?_⟩
    refine ⟨_, rfl, s, lc, rfl, st, fun H2 t M hT tour => ?_⟩
    refine ⟨fun σ H' => ∃ b : Bool, T2 H' t M ∧ (b = true → Near M) ∧ σ = [some (.ref a), some (.ref s), some (.ref t), some (.bl b), none, none, none, none, none, none, none, none, none], ?_, ?_⟩
    · refine ⟨_, rfl, t, M, rfl, hT, tour, fun H3 v sm3 hv => ⟨rfl, _, rfl, ?_⟩⟩
      rcases hv with rfl | ⟨p, o, rfl, good, lo, eM⟩
      · exact itN (by decide) ⟨false, hT.same sm3, fun z => (by cases z), rfl⟩
      · refine itP (by rfl) ⟨_, rfl, t, M, rfl, hT.same sm3, tour, fun H4 l ts sm4 hL htri l64 => ⟨(by show 0 ≤ sizeLine; decide), fun e he => ?_⟩⟩
        refine ⟨dLT ts, .list [], (hL.same (same_new he)).dp, .lst (SqL.of upd_same) .nil, shaped_lt ts, rfl, _, hT.same ((sm3.trans sm4).new he), fun z => ?_, rfl⟩
        cases ts with
        | nil =>
          rw [eqv_lt0] at z
          cases z
        | cons w ts =>
          obtain ⟨x, y, z, _, px, hy, hz, hx⟩ := htri w (List.mem_cons_self ..)
          exact near_of tour good eM px hy hz hx
    clear hT st hS
    rintro σ Hb ⟨b, hT, near, rfl⟩
    have t1 := tour.pos
    have t6 := tour.most
    obtain ⟨rt, hrt, lrt⟩ := id hT.len
    have lenT : ∀ {H' : Hp}, Same Hb H' → SqT K H' t rt := fun {H'} sm => SqT.of (sm _ _ hrt)
    refine ⟨_, rfl, t, _, rfl, .inr (lenT (Same.refl Hb)), ?_⟩
    rw [lrt]
    refine ⟨_, rfl, (by omega), (by omega), for_range (lo := 0) (n := ((M.length : Nat) : Int).toNat) (fun i σ H' => Same Hb H' ∧ ∃ o4 o5 o6 o7 o8 o9 o10 o11 o12 : Option V, σ = [some (.ref a), some (.ref s), some (.ref t), some (.bl b), o4, o5, o6, o7, o8, o9, o10, o11, o12])
      ⟨Same.refl Hb, none, none, none, none, none, none, none, none, none, rfl⟩ ?_ ?_⟩
    case _ =>
      rintro i σ H' hi ⟨smi, o4, o5, o6, o7, o8, o9, o10, o11, o12, rfl⟩
      rw [Int.toNat_natCast] at hi
      have z0 : (0 : Int) + (i : Int) = (i : Int) := by omega
      rw [z0]
      have p1 : Pl M (i : Int) := ⟨by omega, by omega⟩
      generalize (i : Int) = one at p1
      -- the start
      intro d hd
      have hd0 : Hb d = none := smi.free hd
      refine ⟨_, rfl, _, rfl, (by show 1 ≤ sizeLine; decide), fun t0 ht0 => ?_⟩
      have nt : t0 ≠ d := fun q => by rw [q, upd_same] at ht0; cases ht0
      refine ⟨by rw [upd_ne nt.symm]; exact upd_same, [(Sum.inl one, V.ref t0)], rfl, (by show 1 ≤ 15; decide), ?_⟩
      refine ⟨_, rfl, (by show 1 ≤ sizeLine; decide), fun t2 ht2 => ⟨(by show 1 ≤ sizeLine; decide), fun R0 hR0 => ?_⟩⟩
      have n2d : t2 ≠ d := fun q => by rw [q, upd_same] at ht2; cases ht2
      have n20 : t2 ≠ t0 := fun q => by rw [q, upd_ne nt, upd_same] at ht2; cases ht2
      have nR2 : R0 ≠ t2 := fun q => by rw [q, upd_same] at hR0; cases hR0
      have nRd : R0 ≠ d := fun q => by rw [q, upd_ne n2d.symm, upd_same] at hR0; cases hR0
      have nR0 : R0 ≠ t0 := fun q => by rw [q, upd_ne n20.symm, upd_ne nt, upd_same] at hR0; cases hR0
      have sA := ((((smi.new (o := .dK []) hd).new (o := HO.tup [V.int one]) ht0).wr (o := .dK (mergeK [] [(Sum.inl one, V.ref t0)])) hd0).new (o := HO.tup [V.int one]) ht2).new (o := HO.lst [V.ref t2]) hR0
      have dbA : DB (upd (upd (upd (upd (upd H' d (.dK [])) t0 (.tup [V.int one])) d (.dK (mergeK [] [(Sum.inl one, V.ref t0)]))) t2 (.tup [V.int one])) R0 (.lst [V.ref t2])) d (lev M one 0).1 := by
        refine ⟨[(Sum.inl one, V.ref t0)], ?_, .cons ⟨rfl, t0, rfl, ?_⟩ .nil⟩
        · rw [upd_ne nRd.symm, upd_ne n2d.symm, upd_same]
          rfl
        · show upd _ _ _ t0 = _
          rw [upd_ne nR0.symm, upd_ne n20.symm, upd_ne nt, upd_same]
          rfl
      have wA : WV (upd (upd (upd (upd (upd H' d (.dK [])) t0 (.tup [V.int one])) d (.dK (mergeK [] [(Sum.inl one, V.ref t0)]))) t2 (.tup [V.int one])) R0 (.lst [V.ref t2])) [V.ref t2] (sortW (wks (lev M one 0).2)) := by
        show WV _ [V.ref t2] (sortW [[one]])
        rw [sortW_one]
        refine .cons ⟨t2, rfl, ?_⟩ .nil
        show upd _ _ _ t2 = _
        rw [upd_ne nR2.symm, upd_same]
        rfl
      have RA : (upd (upd (upd (upd (upd H' d (.dK [])) t0 (.tup [V.int one])) d (.dK (mergeK [] [(Sum.inl one, V.ref t0)]))) t2 (.tup [V.int one])) R0 (.lst [V.ref t2])) R0 = some (.lst [V.ref t2]) := upd_same
      clear hR0 nR2 nRd nR0 ht2 n2d n20
      generalize upd (upd (upd (upd (upd H' d (.dK [])) t0 (.tup [V.int one])) d (.dK (mergeK [] [(Sum.inl one, V.ref t0)]))) t2 (.tup [V.int one])) R0 (.lst [V.ref t2]) = HA at sA dbA wA RA
      -- level by level
      refine ⟨_, rfl, t, _, rfl, .inr (lenT sA), ?_⟩
      rw [lrt]
      refine ⟨_, rfl, (by omega), (by omega), for_range (lo := 0) (n := ((M.length : Nat) : Int).toNat) (fun k σ Hk => Same Hb Hk ∧ DB Hk d (lev M one k).1 ∧ ∃ (R : Addr) (vs : List V), Hk R = some (.lst vs) ∧ WV Hk vs (sortW (wks (lev M one k).2)) ∧
          ∃ o7 o8 o9 o10 o11 o12 : Option V, σ = [some (.ref a), some (.ref s), some (.ref t), some (.bl b), some (.int one), some (.ref d), some (.ref R), o7, o8, o9, o10, o11, o12])
        ⟨sA, dbA, R0, _, RA, wA, _, _, _, _, _, _, rfl⟩ ?_ ?_⟩
      · rintro k σ Hk hk ⟨smk, dbk, R, vs, hR, wv, o7, o8, o9, o10, o11, o12, rfl⟩
        have B := bfs M one k
        have fl := (VOk.lev1 tour p1 k).len
        have wok : ∀ w' ∈ wks (lev M one k).2, w'.length = k + 1 ∧ TS.Bd 8 w' := fun w' mw => by
          obtain ⟨z, mz⟩ := mem_wks.mp mw
          obtain ⟨mf, hl'⟩ := (B.fr z w').mp mz
          exact ⟨hl', pl_bd tour ((B.wk z w' mf).1.pl tour p1).1⟩
        refine ⟨(by show 0 ≤ sizeLine; decide), fun Lg hLg => ?_⟩
        have lg0 : Hb Lg = none := smk.free hLg
        have nRL : R ≠ Lg := ne_of_none hR hLg
        refine ⟨_, rfl, R, rfl, ⟨_, SqL.of (same_new hLg _ _ hR)⟩, for_list (K := K) (a := R) (xs := vs) (fun j σ Hj => Same Hb Hj ∧ SameT Hk Hj ∧ Hj R = some (.lst vs) ∧ DB Hj d ((lev M one k).1 ++ ((sortW (wks (lev M one k).2)).take j).foldl (visR M (lev M one k).1) []) ∧
            L2t Hj Lg (wks (((sortW (wks (lev M one k).2)).take j).foldl (visR M (lev M one k).1) [])) ∧
            ∃ o9 o10 : Option V, σ = [some (.ref a), some (.ref s), some (.ref t), some (.bl b), some (.int one), some (.ref d), some (.ref R), some (.int (0 + (k : Int))), some (.ref Lg), o9, o10, o11, o12])
          ⟨smk.new hLg, SameT.of (same_new hLg), same_new hLg _ _ hR, ?_, ⟨[], upd_same, .nil⟩, _, _, rfl⟩ (fun j σ Hj _ q => SqL.of q.2.2.1) ?_ ?_⟩
        · show DB _ d ((lev M one k).1 ++ [])
          rw [List.append_nil]
          exact dbk.same (same_new hLg)
        · rintro j x σ Hj hx ⟨smj, stj, hRj, dbj, lgj, o9, o10, rfl⟩
          obtain ⟨wr, hwr, r, rfl, htr⟩ := paired_getL wv hx
          have mr : wr ∈ wks (lev M one k).2 := (sortW_perm _).mem_iff.mp (List.mem_of_getElem? hwr)
          obtain ⟨z, mz⟩ := mem_wks.mp mr
          have hwk := (B.wk z wr ((B.fr z wr).mp mz).1).1
          have hne : wr ≠ [] := fun q => by
            have := hwk.len
            rw [q] at this
            simp at this
          have pz : Pl M (lastI wr) := by rw [hwk.last]; exact (hwk.pl tour p1).2
          obtain ⟨xs, rw_, g1, g2, g3⟩ := hT.row pz
          have wl := (wok wr mr).1
          refine ⟨_, rfl, _, rfl, 1, rfl, r, _, _, _, rfl, rfl, SqT.of (stj _ _ htr), at_last hne, t, xs, _, _, rfl, rfl, SqT.of (smj _ _ g1), g2, rw_, rfl, ⟨_, SqT.of (smj _ _ g3)⟩, ?_⟩
          refine for_tup (K := K) (a := rw_) (xs := (rowAt M (lastI wr)).map V.int) (fun i σ Hl => Same Hb Hl ∧ SameT Hk Hl ∧ Hl R = some (.lst vs) ∧
              DB Hl d ((lev M one k).1 ++ ((rowAt M (lastI wr)).take i).foldl (vis (lev M one k).1 wr) (((sortW (wks (lev M one k).2)).take j).foldl (visR M (lev M one k).1) [])) ∧
              L2t Hl Lg (wks (((rowAt M (lastI wr)).take i).foldl (vis (lev M one k).1 wr) (((sortW (wks (lev M one k).2)).take j).foldl (visR M (lev M one k).1) []))) ∧
              ∃ o10 : Option V, σ = [some (.ref a), some (.ref s), some (.ref t), some (.bl b), some (.int one), some (.ref d), some (.ref R), some (.int (0 + (k : Int))), some (.ref Lg), some (.ref r), o10, o11, o12])
            ⟨smj, stj, hRj, dbj, lgj, o10, rfl⟩ (fun i σ Hl _ q => SqT.of (q.1 _ _ g3)) ?_ ?_
          · rintro i x σ Hl hi ⟨sml, stl, hRl, dbl, lgl, o10, rfl⟩
            rw [List.getElem?_map] at hi
            obtain ⟨y, hy, rfl⟩ := Option.map_eq_some_iff.mp hi
            have py : Pl M y := tour.beaten (List.mem_of_getElem? hy)
            have vok : VOk M (((rowAt M (lastI wr)).take i).foldl (vis (lev M one k).1 wr) (((sortW (wks (lev M one k).2)).take j).foldl (visR M (lev M one k).1) [])) :=
              VOk.fold _ (VOk.rows tour _ VOk.nil) fun u mu => tour.beaten (List.mem_of_mem_take mu)
            have step := take_foldl (vis (lev M one k).1 wr) (((sortW (wks (lev M one k).2)).take j).foldl (visR M (lev M one k).1) []) hy
            generalize hfr : ((rowAt M (lastI wr)).take i).foldl (vis (lev M one k).1 wr) (((sortW (wks (lev M one k).2)).take j).foldl (visR M (lev M one k).1) []) = fr at dbl vok step lgl
            have len2 := vok.len
            obtain ⟨kv2, e2, kb2⟩ := id dbl
            refine ⟨_, rfl, _, rfl, d, _, rfl, DGet.k (k := Sum.inl y) e2, _, rfl, ?_⟩
            rw [kb2.isSome]
            by_cases c : y ∈ keys ((lev M one k).1 ++ fr)
            · rw [decide_eq_true c]
              have e := step.trans (vis_in (by rw [keys_append] at c; exact List.mem_append.mp c))
              refine iteF ⟨sml, stl, hRl, ?_, ?_, _, rfl⟩
              · rw [e]
                exact dbl
              · rw [e]
                exact lgl
            · rw [decide_eq_false c]
              have c1 : y ∉ keys (lev M one k).1 := fun z => c (by rw [keys_append]; exact List.mem_append_left _ z)
              have c2 : y ∉ keys fr := fun z => c (by rw [keys_append]; exact List.mem_append_right _ z)
              have e := step.trans (vis_out c1 c2)
              obtain ⟨rsL, eL, rowL⟩ := id lgl
              have lL : rsL.length = fr.length := by rw [rowL.length]; simp [wks]
              refine iteT ⟨_, rfl, _, rfl, (by show 1 ≤ sizeLine; decide), fun tt htt => ?_⟩
              have htl := stl _ _ htr
              refine ⟨r, tt, _, _, rfl, rfl, SqT.of ((same_new htt) _ _ htl), SqT.of upd_same, (by simpa using hne), Nat.le_of_lt (small64 (by rw [List.length_map, wl]; show k + 1 + 1 ≤ 64; omega)), (fun q => by cases q), fun _ q hq => ?_⟩
              have smq : Same Hl (upd (upd Hl tt (.tup [V.int y])) q (.tup (wr.map V.int ++ [V.int y]))) := (same_new htt).new hq
              have hq3 : (upd (upd Hl tt (.tup [V.int y])) q (.tup (wr.map V.int ++ [V.int y]))) q = some (.tup ((wr ++ [y]).map V.int)) := by rw [upd_same, List.map_append]; rfl
              generalize upd (upd Hl tt (.tup [V.int y])) q (.tup (wr.map V.int ++ [V.int y])) = Hm at smq hq3
              have e2' := smq _ _ e2
              refine ⟨_, rfl, _, rfl, d, _, rfl, DPut.k (k := Sum.inl y) e2' (small64 (by rw [kb2.length, List.length_append]; omega)), ?_⟩
              have nd2 : ∀ xs : List V, (HO.dK kv2) ≠ .tup xs := fun xs z => by cases z
              have F1 : Same Hb (upd Hm d (.dK (putK kv2 (Sum.inl y) (.ref q)))) := (sml.trans smq).wr hd0
              have F2 : SameT Hk (upd Hm d (.dK (putK kv2 (Sum.inl y) (.ref q)))) := (stl.trans (SameT.of smq)).trans (SameT.updD e2')
              have F3 : (upd Hm d (.dK (putK kv2 (Sum.inl y) (.ref q)))) R = some (.lst vs) := by
                rw [upd_ne (ne_of (smq _ _ hRl) e2' fun z => by cases z)]
                exact smq _ _ hRl
              have F4 : DB (upd Hm d (.dK (putK kv2 (Sum.inl y) (.ref q)))) d ((lev M one k).1 ++ (fr ++ [(y, wr ++ [y])])) := by
                rw [← List.append_assoc]
                exact ⟨_, upd_same, KB.upd e2' nd2 ((kb2.same smq).put c hq3)⟩
              have F5 : (upd Hm d (.dK (putK kv2 (Sum.inl y) (.ref q)))) Lg = some (.lst (rsL.map V.ref)) := by
                rw [upd_ne (ne_of (smq _ _ eL) e2' fun z => by cases z)]
                exact smq _ _ eL
              have F6 : Row1 (upd Hm d (.dK (putK kv2 (Sum.inl y) (.ref q)))) rsL (wks fr) := row1_upd e2' nd2 (rowL.same smq)
              generalize upd Hm d (.dK (putK kv2 (Sum.inl y) (.ref q))) = H2' at F1 F2 F3 F4 F5 F6
              refine ⟨_, rfl, .inl ⟨rfl, _, SqL.of F5⟩, _, rfl, _, rfl, (by show 1 ≤ sizeLine; decide), fun t3 h3 => ?_⟩
              refine ⟨r, t3, _, _, rfl, rfl, SqT.of ((same_new h3) _ _ (F2 _ _ htr)), SqT.of upd_same, (by simpa using hne), Nat.le_of_lt (small64 (by rw [List.length_map, wl]; show k + 1 + 1 ≤ 64; omega)), (fun q => by cases q), fun _ q3 h3q => ?_⟩
              have sm3 : Same H2' (upd (upd H2' t3 (.tup [V.int y])) q3 (.tup (wr.map V.int ++ [V.int y]))) := (same_new h3).new h3q
              have hq4 : Tp (upd (upd H2' t3 (.tup [V.int y])) q3 (.tup (wr.map V.int ++ [V.int y]))) q3 (wr ++ [y]) := by
                show upd _ _ _ q3 = _
                rw [upd_same, List.map_append]
                rfl
              generalize upd (upd H2' t3 (.tup [V.int y])) q3 (.tup (wr.map V.int ++ [V.int y])) = H3' at sm3 hq4
              have eL3 := sm3 _ _ F5
              refine ⟨Lg, _, _, rfl, rfl, eL3, small64 (by rw [List.length_map]; omega), (F1.trans sm3).wr lg0, (F2.trans (SameT.of sm3)).trans (SameT.upd eL3), ?_, ?_, ?_, _, rfl⟩
              · rw [upd_ne nRL]
                exact sm3 _ _ F3
              · rw [e]
                exact (F4.same sm3).upd eL3
              · rw [e]
                have ew : wks (fr ++ [(y, wr ++ [y])]) = wks fr ++ [wr ++ [y]] := by simp [wks]
                rw [ew]
                exact L2t.snoc eL3 (F6.same sm3) hq4
          · rintro σ Hl ⟨sml, stl, hRl, dbl, lgl, o10, rfl⟩
            rw [List.length_map, List.take_length] at dbl lgl
            have e := take_foldl (visR M (lev M one k).1) [] hwr
            refine ⟨sml, stl, hRl, ?_, ?_, _, _, rfl⟩
            · rw [e]
              exact dbl
            · rw [e]
              exact lgl
        · rintro σ Hj ⟨smj, stj, hRj, dbj, lgj, o9, o10, rfl⟩
          rw [wv.length, List.take_length] at dbj lgj
          have dbj : DB Hj d (lev M one (k + 1)).1 := dbj
          have lgj : L2t Hj Lg (wks (lev M one (k + 1)).2) := lgj
          obtain ⟨rsL, eL, rowL⟩ := lgj
          have l2 := (VOk.lev2 tour p1 (k + 1)).len
          have lL : rsL.length = (lev M one (k + 1)).2.length := by rw [rowL.length]; simp [wks]
          have B2 := bfs M one (k + 1)
          have wok2 : ∀ w' ∈ wks (lev M one (k + 1)).2, w'.length = k + 1 + 1 ∧ TS.Bd 8 w' := fun w' mw => by
            obtain ⟨z, mz⟩ := mem_wks.mp mw
            obtain ⟨mf, hl'⟩ := (B2.fr z w').mp mz
            exact ⟨hl', pl_bd tour ((B2.wk z w' mf).1.pl tour p1).1⟩
          refine ⟨_, rfl, k + 1 + 1, by omega, Lg, _, rfl, SqL.of eL, by rw [List.length_map]; omega, fun x mx => ?_, fun ys p perm pw hp => ?_⟩
          · obtain ⟨i, hi⟩ := List.getElem?_of_mem mx
            obtain ⟨w', hw', aa, rfl, ht⟩ := paired_getL rowL.wv hi
            exact ⟨w', ⟨aa, rfl, SqT.of ht⟩, wok2 w' (List.mem_of_getElem? hw')⟩
          · have wy := sorted_is (K := K) rowL.wv wok2 perm pw
            exact ⟨smj.new hp, dbj.same (same_new hp), p, ys, upd_same, wy.same (same_new hp), _, _, _, _, _, _, rfl⟩
      · rintro σ HB ⟨smB, dbB, R, vs, _, _, o7, o8, o9, o10, o11, o12, rfl⟩
        rw [Int.toNat_natCast] at dbB
        have dbB : DB HB d (best M one) := dbB
        have bnd : (keys (best M one)).Nodup := best_nd
        refine ⟨fun σ H' => Same Hb H' ∧ DB H' d (best M one) ∧ ∃ o6 o7 o8 o9 o10 o11 o12 : Option V, σ = [some (.ref a), some (.ref s), some (.ref t), some (.bl b), some (.int one), some (.ref d), o6, o7, o8, o9, o10, o11, o12], ?_, ?_⟩
        · refine ⟨_, rfl, t, _, rfl, .inr (lenT smB), _, _, rfl, rfl, _, rfl, ite2 (fun c => ?_) (fun c => ⟨smB, dbB, _, _, _, _, _, _, _, rfl⟩)⟩
          refine ⟨_, rfl, _, rfl, t, M, one, rfl, hT.same smB, tour, p1, fun H2 l smW ⟨rs, eW, rowW⟩ => ?_⟩
          refine ⟨l, rfl, ⟨_, SqL.of eW⟩, for_list (K := K) (a := l) (xs := rs.map V.ref) (fun j σ Hj => Same H2 Hj ∧ ∃ o9 : Option V, σ = [some (.ref a), some (.ref s), some (.ref t), some (.bl b), some (.int one), some (.ref d), some (.ref R), o7, o8, o9, o10, o11, o12])
            ⟨Same.refl _, _, rfl⟩ (fun j σ Hj _ q => SqL.of (q.1 _ _ eW)) ?_ ?_⟩
          · rintro j x σ Hj hx ⟨smj, o9, rfl⟩
            rw [List.getElem?_map] at hx
            obtain ⟨r, hr', rfl⟩ := Option.map_eq_some_iff.mp hx
            obtain ⟨wr, hwr, htr⟩ := paired_getL rowW hr'
            have htr : Tp Hj r wr := smj _ _ htr
            obtain ⟨x, hwk, lw⟩ := rowsK_walk 3 (List.mem_of_getElem? hwr)
            have hne : wr ≠ [] := fun z => by rw [z] at lw; cases lw
            obtain ⟨w', mw', opt⟩ := best_opt tour p1 hwk
            obtain ⟨kvs, eD, kb⟩ := id (dbB.same (smW.trans smj))
            obtain ⟨aw, hv, htw⟩ := kb.some bnd mw'
            have el : atI (wr.map V.int) (-1) = some (.int x) := by rw [at_last hne, hwk.last]
            have hg : DGet Hj d (.int x) (some (.ref aw)) := by
              rw [← hv]
              exact DGet.k (k := Sum.inl x) eD
            refine ⟨_, rfl, 1, rfl, r, _, _, _, rfl, rfl, SqT.of htr, el, _, rfl, d, _, rfl, hg, _, rfl, iteF ?_⟩
            refine ⟨_, rfl, _, rfl, 1, rfl, r, _, _, _, rfl, rfl, SqT.of htr, el, d, .ref aw, rfl, hg, aw, _, rfl, .inr (SqT.of htw), ?_⟩
            refine ⟨_, rfl, _, rfl, 1, rfl, r, _, _, _, rfl, rfl, SqT.of htr, el, d, .ref aw, rfl, hg, (by show 2 ≤ sizeLine; decide), fun q1 hq1 => ?_⟩
            refine ⟨_, rfl, r, _, rfl, .inr (SqT.of (same_new hq1 _ _ htr)), _, rfl, (by show 2 ≤ sizeLine; decide), fun q2 hq2 => ?_⟩
            have sq := (same_new (o := HO.tup [V.int ((w'.map V.int).length : Nat), V.ref aw]) hq1).new (o := HO.tup [V.int ((wr.map V.int).length : Nat), V.ref r]) hq2
            refine ⟨q1, q2, aw, r, _, _, w', wr, rfl, rfl, same_new hq2 _ _ upd_same, upd_same, sq _ _ htw, sq _ _ htr, ?_, _, rfl, iteF ⟨smj.trans sq, _, rfl⟩⟩
            rw [List.length_map, List.length_map]
            rcases opt with h | ⟨h, hc⟩
            · exact .inl (by omega)
            · exact .inr ⟨by omega, gtI_false h (pl_bd tour ((best_walk mw').1.pl tour p1).1) (pl_bd tour (hwk.pl tour p1).1) hc⟩
          · rintro σ Hj ⟨smj, o9, rfl⟩
            exact ⟨(smB.trans smW).trans smj, dbB.same (smW.trans smj), _, _, _, _, _, _, _, rfl⟩
        · rintro σ HC ⟨smC, dbC, o6, o7, o8, o9, o10, o11, o12, rfl⟩
          refine ⟨_, rfl, t, _, rfl, .inr (lenT smC), ?_⟩
          rw [lrt]
          refine ⟨_, rfl, (by omega), (by omega), for_range (lo := 0) (n := ((M.length : Nat) : Int).toNat) (fun j σ Hj => Same HC Hj ∧ ∃ o11 o12 : Option V, σ = [some (.ref a), some (.ref s), some (.ref t), some (.bl b), some (.int one), some (.ref d), o6, o7, o8, o9, o10, o11, o12])
            ⟨Same.refl _, _, _, rfl⟩ ?_ ?_⟩
          · rintro j σ Hj hj ⟨smj, o11, o12, rfl⟩
            rw [Int.toNat_natCast] at hj
            have z0 : (0 : Int) + (j : Int) = (j : Int) := by omega
            rw [z0]
            have p2 : Pl M (j : Int) := ⟨by omega, by omega⟩
            generalize (j : Int) = other at p2
            have hTj := hT.same (smC.trans smj)
            refine ⟨_, rfl, _, rfl, _, rfl, t, M, one, other, rfl, hTj, tour, p1, p2, fun H1' v sm1 hv => ?_⟩
            have hT1 := hTj.same sm1
            obtain ⟨kvs, eD, kb⟩ := id ((dbC.same smj).same sm1)
            have fin : Same HC H1' := smj.trans sm1
            rcases hv with ⟨c, rfl⟩ | ⟨aw, w', rfl, mw, htw⟩
            · refine ⟨_, rfl, _, rfl, d, rfl, .inl ⟨kvs, .inl eD⟩, _, rfl, _, DGet.k (k := Sum.inl other) eD, ?_⟩
              rw [kb.none c]
              refine ⟨.none, .none, .non, .non, rfl, rfl, _, rfl, ?_⟩
              rw [eqv_nn]
              refine iteF ?_
              refine ⟨_, rfl, rfl, _, rfl, itN (by decide) (iteF ?_)⟩
              refine ⟨_, rfl, rfl, _, rfl, itP (by decide) ⟨_, rfl, b, rfl, ?_⟩⟩
              cases b with
              | true =>
                obtain ⟨w2, m2, _⟩ := near rfl one other p1 p2
                exact absurd (mem_keys.mpr ⟨w2, m2⟩) c
              | false => exact iteF ⟨fin, _, _, rfl⟩
            · refine ⟨_, rfl, _, rfl, d, rfl, .inl ⟨kvs, .inl eD⟩, _, rfl, _, DGet.k (k := Sum.inl other) eD, ?_⟩
              obtain ⟨a2, hv2, ht2⟩ := kb.some bnd mw
              rw [hv2]
              refine ⟨dTI w', dTI w', dp_ti htw, dp_ti ht2, shaped_ti _, shaped_ti _, _, rfl, ?_⟩
              rw [eqv_tt_same]
              refine iteF ?_
              obtain ⟨hwk, lw⟩ := best_walk mw
              refine ⟨_, rfl, rfl, _, rfl, itP (by rfl) ⟨_, rfl, _, rfl, t, aw, M, w', one, other, rfl, hT1, tour, htw, hwk, p1, by omega, fun H2' sm2 => ⟨true, true, rfl, rfl, _, rfl, iteF ⟨_, rfl, b, rfl, ?_⟩⟩⟩⟩
              cases b with
              | true =>
                obtain ⟨w2, m2, l2⟩ := near rfl one other p1 p2
                have e := key_uniq bnd mw m2
                subst e
                refine iteT ⟨_, rfl, aw, _, rfl, .inr (SqT.of (sm2 _ _ htw)), _, _, rfl, rfl, _, rfl, itN ?_ ⟨_, rfl, rfl, _, rfl, itN (by rintro ⟨⟩) (iteF ⟨fin.trans sm2, _, _, rfl⟩)⟩⟩
                rw [List.length_map, decide_eq_true_eq]
                omega
              | false => exact iteF (iteF ⟨_, rfl, rfl, _, rfl, itN (by rintro ⟨⟩) (iteF ⟨fin.trans sm2, _, _, rfl⟩)⟩)
          · rintro σ Hj ⟨smj, o11, o12, rfl⟩
            exact ⟨smC.trans smj, _, _, _, _, _, _, _, _, _, rfl⟩
    case _ =>
      rintro σ H' ⟨sm, _⟩
      exact hQ H'
end
end RB
/-! The end: what the head gives, what the defs promise, the statement. -/
namespace RB
open PySem PySem.Spec PyProof.Rows L2
theorem stands {K : PySem.W.Frag} {h : Heap} {mg : Str → Option Value} (X : K.In h) (G : h.Ns mainGlobals mg) (c : He.SaysD fa fn K) :
    Stands K mg "is_whole" s_is_whole ∧
    Stands K mg "is_climbing" s_is_climbing ∧
    Stands K mg "is_tournament" s_is_tournament ∧
    Stands K mg "beats" s_beats ∧
    Stands K mg "check_tournament" s_check_tournament ∧
    Stands K mg "is_player" s_is_player ∧
    Stands K mg "tournament_by" s_tournament_by ∧
    Stands K mg "order_of" s_order_of ∧
    Stands K mg "told_order" s_told_order ∧
    Stands K mg "is_path" s_is_path ∧
    Stands K mg "is_walk" s_is_walk ∧
    Stands K mg "check_two" s_check_two ∧
    Stands K mg "walks_from" s_walks_from ∧
    Stands K mg "shortest_walk" s_shortest_walk ∧
    Stands K mg "_law_stream" s_law_stream ∧
    Stands K mg "_law_next" s_law_next ∧
    Stands K mg "_law_tournament" s_law_tournament ∧
    Stands K mg "_law_order" s_law_order ∧
    Stands K mg "_law_by_order" s_law_by_order ∧
    Stands K mg "_law_some" s_law_some ∧
    Stands K mg "_law_walks" s_law_walks ∧
    Stands K mg "_law_rows" s_law_rows ∧
    Stands K mg "_law_triangles" s_law_triangles ∧
    Stands K mg "law" s_law := by
  obtain ⟨e0, F0⟩ := c.def_ 0 (d := d_is_whole) rfl
  obtain ⟨e1, F1⟩ := c.def_ 1 (d := d_is_climbing) rfl
  obtain ⟨e2, F2⟩ := c.def_ 2 (d := d_is_tournament) rfl
  obtain ⟨e3, F3⟩ := c.def_ 3 (d := d_beats) rfl
  obtain ⟨e4, F4⟩ := c.def_ 4 (d := d_check_tournament) rfl
  obtain ⟨e5, F5⟩ := c.def_ 5 (d := d_is_player) rfl
  obtain ⟨e6, F6⟩ := c.def_ 6 (d := d_tournament_by) rfl
  obtain ⟨e7, F7⟩ := c.def_ 7 (d := d_order_of) rfl
  obtain ⟨e8, F8⟩ := c.def_ 8 (d := d_told_order) rfl
  obtain ⟨e9, F9⟩ := c.def_ 9 (d := d_is_path) rfl
  obtain ⟨e10, F10⟩ := c.def_ 10 (d := d_is_walk) rfl
  obtain ⟨e11, F11⟩ := c.def_ 11 (d := d_check_two) rfl
  obtain ⟨e12, F12⟩ := c.def_ 12 (d := d_walks_from) rfl
  obtain ⟨e13, F13⟩ := c.def_ 13 (d := d_shortest_walk) rfl
  obtain ⟨e14, F14⟩ := c.def_ 14 (d := d_law_stream) rfl
  obtain ⟨e15, F15⟩ := c.def_ 15 (d := d_law_next) rfl
  obtain ⟨e16, F16⟩ := c.def_ 16 (d := d_law_tournament) rfl
  obtain ⟨e17, F17⟩ := c.def_ 17 (d := d_law_order) rfl
  obtain ⟨e18, F18⟩ := c.def_ 18 (d := d_law_by_order) rfl
  obtain ⟨e19, F19⟩ := c.def_ 19 (d := d_law_some) rfl
  obtain ⟨e20, F20⟩ := c.def_ 20 (d := d_law_walks) rfl
  obtain ⟨e21, F21⟩ := c.def_ 21 (d := d_law_rows) rfl
  obtain ⟨e22, F22⟩ := c.def_ 22 (d := d_law_triangles) rfl
  obtain ⟨e23, F23⟩ := c.def_ 23 (d := d_law) rfl
  exact ⟨⟨_, e0, He.glo_ok X G (c.fact 0 (f := .glo "is_whole") rfl), F0⟩,
    ⟨_, e1, He.glo_ok X G (c.fact 1 (f := .glo "is_climbing") rfl), F1⟩,
    ⟨_, e2, He.glo_ok X G (c.fact 2 (f := .glo "is_tournament") rfl), F2⟩,
    ⟨_, e3, He.glo_ok X G (c.fact 3 (f := .glo "beats") rfl), F3⟩,
    ⟨_, e4, He.glo_ok X G (c.fact 4 (f := .glo "check_tournament") rfl), F4⟩,
    ⟨_, e5, He.glo_ok X G (c.fact 5 (f := .glo "is_player") rfl), F5⟩,
    ⟨_, e6, He.glo_ok X G (c.fact 6 (f := .glo "tournament_by") rfl), F6⟩,
    ⟨_, e7, He.glo_ok X G (c.fact 7 (f := .glo "order_of") rfl), F7⟩,
    ⟨_, e8, He.glo_ok X G (c.fact 8 (f := .glo "told_order") rfl), F8⟩,
    ⟨_, e9, He.glo_ok X G (c.fact 9 (f := .glo "is_path") rfl), F9⟩,
    ⟨_, e10, He.glo_ok X G (c.fact 10 (f := .glo "is_walk") rfl), F10⟩,
    ⟨_, e11, He.glo_ok X G (c.fact 11 (f := .glo "check_two") rfl), F11⟩,
    ⟨_, e12, He.glo_ok X G (c.fact 12 (f := .glo "walks_from") rfl), F12⟩,
    ⟨_, e13, He.glo_ok X G (c.fact 13 (f := .glo "shortest_walk") rfl), F13⟩,
    ⟨_, e14, He.glo_ok X G (c.fact 14 (f := .glo "_law_stream") rfl), F14⟩,
    ⟨_, e15, He.glo_ok X G (c.fact 15 (f := .glo "_law_next") rfl), F15⟩,
    ⟨_, e16, He.glo_ok X G (c.fact 16 (f := .glo "_law_tournament") rfl), F16⟩,
    ⟨_, e17, He.glo_ok X G (c.fact 17 (f := .glo "_law_order") rfl), F17⟩,
    ⟨_, e18, He.glo_ok X G (c.fact 18 (f := .glo "_law_by_order") rfl), F18⟩,
    ⟨_, e19, He.glo_ok X G (c.fact 19 (f := .glo "_law_some") rfl), F19⟩,
    ⟨_, e20, He.glo_ok X G (c.fact 20 (f := .glo "_law_walks") rfl), F20⟩,
    ⟨_, e21, He.glo_ok X G (c.fact 21 (f := .glo "_law_rows") rfl), F21⟩,
    ⟨_, e22, He.glo_ok X G (c.fact 22 (f := .glo "_law_triangles") rfl), F22⟩,
    ⟨_, e23, He.glo_ok X G (c.fact 23 (f := .glo "law") rfl), F23⟩⟩
theorem names_ {K : PySem.W.Frag} {h : Heap} {mg : Str → Option Value} (X : K.In h) (G : h.Ns mainGlobals mg) (c : He.SaysD fa fn K) : Tx mg :=
  ⟨He.free_ok X G (c.fact 26 (f := .free "isinstance") rfl),
    He.free_ok X G (c.fact 27 (f := .free "int") rfl),
    He.free_ok X G (c.fact 28 (f := .free "bool") rfl),
    He.free_ok X G (c.fact 29 (f := .free "tuple") rfl),
    He.free_ok X G (c.fact 30 (f := .free "all") rfl),
    He.free_ok X G (c.fact 31 (f := .free "range") rfl),
    He.free_ok X G (c.fact 32 (f := .free "len") rfl),
    He.free_ok X G (c.fact 33 (f := .free "sorted") rfl),
    He.free_ok X G (c.fact 34 (f := .free "enumerate") rfl),
    He.free_ok X G (c.fact 35 (f := .free "list") rfl),
    He.free_ok X G (c.fact 36 (f := .free "abs") rfl),
    He.free_ok X G (c.fact 37 (f := .free "min") rfl),
    He.int_ok X G (c.fact 24 (f := .int "MOST_PLAYERS" 8) rfl), He.int_ok X G (c.fact 25 (f := .int "MOST_WALK" 30) rfl)⟩
theorem law_fn {P : Program} {w : World} {K : PySem.W.Frag} {h : Heap} {mg : Str → Option Value} {base : Heap} (X : K.In h) (G : h.Ns mainGlobals mg) (c : He.SaysD fa fn K) {f0 : Addr} {fd : FuncData} (F : FnP K "law" s_law f0 fd) :
    FnOk P w K mg base CX0 7 f0 fd ["_law_script"] (spLaw K) := by
  obtain ⟨S0, S1, S2, S3, S4, S5, S6, S7, S8, S9, S10, S11, S12, S13, S14, S15, S16, S17, S18, S19, S20, S21, S22, S23⟩ := stands X G c
  have T := names_ X G c
  have w1 := df_is_whole (P := P) (w := w) (base := base) S0 T
  have w2 := df_is_climbing S1 T w1
  have w3 := df_is_tournament S2 T w2
  have w4 := df_check S4 w3
  have w5 := df_is_player (P := P) (w := w) (base := base) S5 T
  have w6 := df_check_two S11 T w4 w5
  have w7 := df_is_path S9 T w5
  have w8 := df_is_walk S10 w4 w7
  have w9 := df_walks_from (P := P) (w := w) (base := base) S12 T
  have w10 := df_shortest_walk S13 w6 w9
  have w11 := df_beats (P := P) (w := w) (base := base) S3 T
  have w12 := df_tournament_by (P := P) (w := w) (base := base) S6 T
  have w13 := df_order_of S7 T w11 w12
  have w14 := df_told_order S8 w4 w13
  have l1 := df_stream (P := P) (w := w) (base := base) S14 T
  have l2 := df_next (P := P) (w := w) (base := base) S15 T
  have l3 := df_tournament S16 T l2
  have l4 := df_lorder S17 T l2
  have l5 := df_lby (P := P) (w := w) (base := base) S18 T
  have l6 := df_some S19 l2 l3 l4 l5
  have l7 := df_walks (P := P) (w := w) (base := base) S20 T
  have l8 := df_rows (P := P) (w := w) (base := base) S21 T
  have l9 := df_tri S22 T l8
  exact law_ok F T l1 l6 w14 l9 l7 w10 w8
theorem facts {P : Program} {w : World} {K : PySem.W.Frag} {h : Heap} {mg : Str → Option Value} {f : Addr} (X : K.In h) (G : h.Ns mainGlobals mg) (hfa : mg ("law" : Str) = some (.ref f)) (c : He.SaysD fa fn K) :
    ∃ fd : FuncData, (∀ (s : Shared) (v : Value), BindsTo s fd ⟨[v], []⟩ [("_law_script", v)]) ∧ ∀ base : Heap, K.In base → base.Ns mainGlobals mg → FnOk P w K mg base CX0 7 f fd ["_law_script"] (spLaw K) := by
  obtain ⟨fd, F⟩ := c.def_ 23 (d := d_law) rfl
  have e := hfa.symm.trans (He.glo_ok X G (c.fact 23 (f := .glo "law") rfl))
  cases e
  have b := FunD.bindsA (ps := ["_law_script"]) F fun _ _ _ _ _ _ us hl => match us, hl with | [_], _ => rfl
  exact ⟨fd, fun s v => b s [v] rfl, fun base _ _ => law_fn X G c F⟩
end RB
open PySem PySem.W PySem.Calls PyProof.Rows
theorem PySem.Challenge.cw_ringbeats_k44_whole_shortest_walks_holds : PySem.Challenge.rw_ringbeats_k44_whole_shortest_walks.Holds := by
  w_on; o_law
  refine HandSHeadRun.head_any (r := RB.RR) (q := view (OpenLaw.row PySem.Challenge.rw_ringbeats_k44_whole_shortest_walks).prog [34]) (H := RB.hk) (ob := RB.ob) (M := 3000) (loose := ["RingError", "BadValue", "MOST_PLAYERS", "is_whole", "is_climbing", "is_tournament", "beats", "check_tournament", "is_player", "tournament_by", "order_of", "told_order", "MOST_WALK", "is_path", "is_walk", "check_two", "walks_from", "shortest_walk", "_law_stream", "_law_next", "_law_is_integer", "_law_tournament", "_law_order", "_law_by_order", "_law_some", "_law_walks", "_law_rows", "_law_triangles"])
    (d := HandSHeadRun.topDef (OpenLaw.row PySem.Challenge.rw_ringbeats_k44_whole_shortest_walks).prog 34) (kwd := []) RB.ob_eq
    (by kernel_rfl) (fun s => by kernel_rfl) RB.run (by kernel_rfl) (by kernel_rfl) (by kernel_rfl) (by rfl) (by first | assumption | decide +kernel) (by decide +kernel) ⟨rfl, rfl, rfl, rfl, rfl, by decide +kernel⟩ ?hw ?hc
  case hw => w_witness2
  case hc =>
    refine L2.walk_ofE (l := PySem.Challenge.rw_ringbeats_k44_whole_shortest_walks) (n := 63) (k := 7) (x := "_law_script") (CX := L2.CX0) rfl (by decide) (by kernel_rfl) ⟨rfl, by decide, by decide⟩ ?F (fun _ _ _ _ z => z)
    intro w mg fa h Y G hmg0
    obtain ⟨K, KX, c⟩ := Y
    have hmg : mg ("law" : PySem.Str) = some (.ref fa) := by
      have e : (HandSHeadRun.topDef (OpenLaw.row PySem.Challenge.rw_ringbeats_k44_whole_shortest_walks).prog 34).name = ("law" : PySem.Str) := by kernel_rfl
      rw [← e]
      exact hmg0
    obtain ⟨fd, hb, hF⟩ := RB.facts (P := (PySem.Challenge.rw_ringbeats_k44_whole_shortest_walks).prog) (w := w) KX G hmg c
    exact ⟨K, fd, RB.spLaw K, KX, hb, fun H a ns hl _ hS => ⟨a, ns, rfl, hS, fun _ => rfl⟩, hF⟩
