import PyProof.Rows.All
import Wide.All
import OpenK.AllK
import Wide.FinOn
import HandS.ForMost
import HandS.Evl
import KE.GoesMore
import KE.GoesEnum
import HandS.Conv
import HandS.Sort
import HandS.TupLen
import KE.KDictKeyed
import KE.KDictPairs
import KE.KDictDisplayH
import KE.KDictSum
import HandS.Small
import HandS.Zip
import HandS.TupLe
import HandS.TupAny
import HandS.Deep
import HandS.IsInst
import HandS.Style
import HandS.SetFor
import HandS.WideBits
import HandS.Walk
import PySem.Challenge.RW_stonewalker_k18_whole_alike_and_apart
set_option Elab.async false
set_option linter.all false
set_option maxRecDepth 100000
set_option maxHeartbeats 4000000
/-! K18 mathematics, part A: webs, what is seen, alike by ways of so many doors, the search of the least parting, stability. -/
namespace K18
abbrev Pt := Nat × Nat
abbrev Web := List (List Pt)
def deg (W : Web) (r : Nat) : Nat := (W.getD r []).length
def nxt (W : Web) (r d : Nat) : Pt := (W.getD r []).getD d (0, 0)
theorem deg_of {W : Web} {r : Nat} {R : List Pt} (h : W[r]? = some R) : deg W r = R.length := by
  unfold deg; rw [List.getD_eq_getElem?_getD, h]; rfl
theorem nxt_of {W : Web} {r d : Nat} {R : List Pt} {e : Pt} (h : W[r]? = some R) (h2 : R[d]? = some e) : nxt W r d = e := by
  have e1 : W.getD r [] = R := by rw [List.getD_eq_getElem?_getD, h]; rfl
  unfold nxt; rw [e1, List.getD_eq_getElem?_getD, h2]; rfl
theorem row_of {W : Web} {r : Nat} (h : r < W.length) : W[r]? = some (W.getD r []) := by
  rw [List.getD_eq_getElem?_getD, List.getElem?_eq_getElem h]; rfl
theorem end_of {W : Web} {r d : Nat} (h : d < deg W r) : (W.getD r [])[d]? = some (nxt W r d) := by
  unfold nxt deg at *
  rw [List.getD_eq_getElem?_getD (l := W.getD r []), List.getElem?_eq_getElem h]; rfl
theorem lt_of_deg {W : Web} {r d : Nat} (h : d < deg W r) : r < W.length := by
  unfold deg at h
  by_cases hr : r < W.length
  · exact hr
  · rw [List.getD_eq_getElem?_getD, List.getElem?_eq_none (by omega)] at h
    simp at h

structure Closed (W : Web) : Prop where
  lt : ∀ r d, d < deg W r → (nxt W r d).1 < W.length
structure Valid (W : Web) : Prop where
  lt : ∀ r d, d < deg W r → (nxt W r d).1 < W.length
  dlt : ∀ r d, d < deg W r → (nxt W r d).2 < deg W (nxt W r d).1
  back : ∀ r d, d < deg W r → nxt W (nxt W r d).1 (nxt W r d).2 = (r, d)
theorem Valid.closed {W : Web} (h : Valid W) : Closed W := ⟨h.lt⟩

/-- what is seen behind a door, a stone lying maybe -/
def sight (W : Web) (s : Option Nat) (r d : Nat) : Nat × Nat × Bool := ((nxt W r d).2, deg W (nxt W r d).1, decide (some (nxt W r d).1 = s))
/-- alike by ways of so many doors -/
def Lk (W V : Web) (s t : Option Nat) : Nat → Nat → Nat → Prop
  | 0, a, b => deg W a = deg V b
  | k + 1, a, b => deg W a = deg V b ∧ ∀ d, d < deg W a → sight W s a d = sight V t b d ∧ Lk W V s t k (nxt W a d).1 (nxt V b d).1
section
variable {W V U : Web} {s t u : Option Nat}
theorem Lk.deg : ∀ {k a b : Nat}, Lk W V s t k a b → deg W a = deg V b
  | 0, _, _, h => h
  | _ + 1, _, _, h => h.1
theorem Lk.down : ∀ {k a b : Nat}, Lk W V s t (k + 1) a b → Lk W V s t k a b
  | 0, _, _, h => h.1
  | _ + 1, _, _, h => ⟨h.1, fun d hd => ⟨(h.2 d hd).1, Lk.down (h.2 d hd).2⟩⟩
theorem Lk.le {j k a b : Nat} (hj : j ≤ k) (h : Lk W V s t k a b) : Lk W V s t j a b := by
  induction k with
  | zero => have e : j = 0 := by omega
            subst e; exact h
  | succ k ih =>
    by_cases e : j = k + 1
    · subst e; exact h
    · exact ih (by omega) h.down
theorem Lk.refl : ∀ (k a : Nat), Lk W W s s k a a
  | 0, _ => rfl
  | k + 1, _ => ⟨rfl, fun _ _ => ⟨rfl, Lk.refl k _⟩⟩
theorem Lk.symm : ∀ {k a b : Nat}, Lk W V s t k a b → Lk V W t s k b a
  | 0, _, _, h => Eq.symm h
  | _ + 1, _, _, h => ⟨h.1.symm, fun d hd => ⟨(h.2 d (by rw [h.1]; exact hd)).1.symm, Lk.symm (h.2 d (by rw [h.1]; exact hd)).2⟩⟩
theorem Lk.trans : ∀ {k a b c : Nat}, Lk W V s t k a b → Lk V U t u k b c → Lk W U s u k a c
  | 0, _, _, _, h, g => Eq.trans h g
  | _ + 1, _, _, _, h, g => ⟨h.1.trans g.1, fun d hd => ⟨(h.2 d hd).1.trans (g.2 d (by rw [← h.1]; exact hd)).1, Lk.trans (h.2 d hd).2 (g.2 d (by rw [← h.1]; exact hd)).2⟩⟩
theorem sight_bare {a b d : Nat} (h : sight W s a d = sight V t b d) : sight W none a d = sight V none b d := by
  unfold sight at *
  injection h with h1 h2
  injection h2 with h2 h3
  rw [h1, h2]
  simp
theorem Lk.bare : ∀ {k a b : Nat}, Lk W V s t k a b → Lk W V none none k a b
  | 0, _, _, h => h
  | _ + 1, _, _, h => ⟨h.1, fun d hd => ⟨sight_bare (h.2 d hd).1, Lk.bare (h.2 d hd).2⟩⟩
end

/-! ### ways -/
def goSeen (W : Web) : Nat → List Nat → Option (List Pt)
  | _, [] => some []
  | r, d :: ds => if d < deg W r then (goSeen W (nxt W r d).1 ds).map (fun l => ((nxt W r d).2, deg W (nxt W r d).1) :: l) else none
def seenOf (W : Web) (r : Nat) (way : List Nat) : Option (Nat × List Pt) := (goSeen W r way).map fun l => (deg W r, l)
def fin (W : Web) : Nat → List Nat → Option Nat
  | r, [] => some r
  | r, d :: ds => if d < deg W r then fin W (nxt W r d).1 ds else none
section
variable {W V : Web} {s t : Option Nat}
theorem Lk.goSeen : ∀ {k a b : Nat} {way : List Nat}, Lk W V s t k a b → way.length ≤ k → goSeen W a way = goSeen V b way
  | _, _, _, [], _, _ => rfl
  | 0, _, _, d :: ds, _, hl => by simp at hl
  | k + 1, a, b, d :: ds, h, hl => by
    unfold K18.goSeen
    by_cases hd : d < K18.deg W a
    · rw [if_pos hd, if_pos (by rw [← h.1]; exact hd)]
      obtain ⟨h1, h2⟩ := h.2 d hd
      rw [Lk.goSeen h2 (by simpa using hl)]
      unfold sight at h1
      injection h1 with e1 e2
      injection e2 with e2 e3
      rw [e1, e2]
    · rw [if_neg hd, if_neg (by rw [← h.1]; exact hd)]
theorem Lk.seenOf {k a b : Nat} {way : List Nat} (h : Lk W V s t k a b) (hl : way.length ≤ k) : seenOf W a way = seenOf V b way := by
  unfold K18.seenOf
  rw [h.goSeen hl, h.deg]
theorem fin_snoc {d : Nat} : ∀ {way : List Nat} {a l : Nat}, fin W a way = some l → d < deg W l → fin W a (way ++ [d]) = some (nxt W l d).1
  | [], a, l, h, hd => by
    have e : a = l := Option.some.inj h
    subst e
    show (if d < deg W a then some (nxt W a d).1 else none) = _
    rw [if_pos hd]
  | x :: ds, a, l, h, hd => by
    unfold fin at h
    show (if x < deg W a then fin W (nxt W a x).1 (ds ++ [d]) else none) = _
    by_cases hx : x < deg W a
    · rw [if_pos hx] at h ⊢
      exact fin_snoc h hd
    · rw [if_neg hx] at h; cases h
theorem goSeen_append (ds : List Nat) : ∀ {way : List Nat} {a l : Nat}, fin W a way = some l → ∃ p, goSeen W a way = some p ∧ goSeen W a (way ++ ds) = (goSeen W l ds).map (p ++ ·)
  | [], a, l, h => by
    have e : a = l := Option.some.inj h
    subst e
    refine ⟨[], rfl, ?_⟩
    show goSeen W a ds = _
    cases goSeen W a ds <;> rfl
  | x :: way, a, l, h => by
    unfold fin at h
    by_cases hx : x < deg W a
    · rw [if_pos hx] at h
      obtain ⟨p, h1, h2⟩ := goSeen_append ds h
      refine ⟨((nxt W a x).2, deg W (nxt W a x).1) :: p, ?_, ?_⟩
      · show (if x < deg W a then (goSeen W (nxt W a x).1 way).map _ else none) = _
        rw [if_pos hx, h1]; rfl
      · show (if x < deg W a then (goSeen W (nxt W a x).1 (way ++ ds)).map _ else none) = _
        rw [if_pos hx, h2]
        cases goSeen W l ds <;> rfl
    · rw [if_neg hx] at h; cases h
theorem Lk.along : ∀ {way : List Nat} {k a b l r : Nat}, Lk W V s t k a b → fin W a way = some l → fin V b way = some r → way.length ≤ k → Lk W V s t (k - way.length) l r
  | [], k, a, b, l, r, h, h1, h2, _ => by
    cases h1; cases h2; exact h
  | x :: way, 0, a, b, l, r, h, h1, h2, hl => by simp at hl
  | x :: way, k + 1, a, b, l, r, h, h1, h2, hl => by
    unfold fin at h1 h2
    by_cases hx : x < K18.deg W a
    · rw [if_pos hx] at h1
      rw [if_pos (by rw [← h.1]; exact hx)] at h2
      have := Lk.along (h.2 x hx).2 h1 h2 (by simpa using hl)
      simpa using this
    · rw [if_neg hx] at h1; cases h1
/-- where the sights without stones differ behind alike ways, what is seen differs -/
theorem seen_unlike {a b l r d : Nat} {way : List Nat} (h1 : fin W a way = some l) (h2 : fin V b way = some r) (hl : d < deg W l) (hr : d < deg V r) (hs : sight W none l d ≠ sight V none r d) : seenOf W a (way ++ [d]) ≠ seenOf V b (way ++ [d]) := by
  intro e
  obtain ⟨p, hp, hp2⟩ := goSeen_append [d] h1
  obtain ⟨q, hq, hq2⟩ := goSeen_append [d] h2
  unfold seenOf at e
  rw [hp2, hq2] at e
  have g1 : goSeen W l [d] = some [((nxt W l d).2, deg W (nxt W l d).1)] := by
    show (if d < deg W l then _ else none) = _
    rw [if_pos hl]; rfl
  have g2 : goSeen V r [d] = some [((nxt V r d).2, deg V (nxt V r d).1)] := by
    show (if d < deg V r then _ else none) = _
    rw [if_pos hr]; rfl
  rw [g1, g2] at e
  simp only [Option.map_some, Option.some.injEq, Prod.mk.injEq] at e
  have e2 := List.append_inj_right' e.2 rfl
  simp only [List.cons.injEq, Prod.mk.injEq, and_true] at e2
  apply hs
  unfold sight
  rw [e2.1, e2.2]
  simp
end

/-! ### the search -/
abbrev Qu := List (Pt × List Nat)
def scan (W V : Web) (s t : Option Nat) (l r : Nat) (way : List Nat) : Nat → Nat → Qu → Sum (List Nat) Qu
  | 0, _, Q => .inr Q
  | n + 1, d, Q =>
    if sight W s l d = sight V t r d then
      if ((nxt W l d).1, (nxt V r d).1) ∈ Q.map (·.1) then scan W V s t l r way n (d + 1) Q
      else scan W V s t l r way n (d + 1) (Q ++ [(((nxt W l d).1, (nxt V r d).1), way ++ [d])])
    else .inl (way ++ [d])
def bfs (W V : Web) (s t : Option Nat) : Nat → Nat → Qu → Option (List Nat)
  | 0, _, _ => none
  | f + 1, i, Q => match Q[i]? with
    | none => none
    | some x => match scan W V s t x.1.1 x.1.2 x.2 (deg W x.1.1) 0 Q with
      | .inl w => some w
      | .inr Q' => bfs W V s t f (i + 1) Q'
def lp (W V : Web) (s t : Option Nat) (a b : Nat) : Option (List Nat) :=
  if deg W a = deg V b then bfs W V s t (W.length * V.length + 1) 0 [((a, b), [])] else some []

/-- lists without repetition within another are no longer -/
theorem nodup_len {α : Type} [DecidableEq α] : ∀ {l m : List α}, l.Nodup → (∀ x ∈ l, x ∈ m) → l.length ≤ m.length
  | [], _, _, _ => Nat.zero_le _
  | x :: l, m, hn, hs => by
    have hx : x ∈ m := hs x List.mem_cons_self
    obtain ⟨h1, h2⟩ := List.nodup_cons.mp hn
    have := nodup_len (m := m.erase x) h2 (fun y hy => (List.mem_erase_of_ne (fun e => h1 (by rw [← e]; exact hy))).mpr (hs y (List.mem_cons_of_mem _ hy)))
    rw [List.length_erase_of_mem hx] at this
    have : 0 < m.length := List.length_pos_of_mem hx
    simp only [List.length_cons]
    omega
theorem pairs_len {l : List Pt} {n m : Nat} (hn : l.Nodup) (hb : ∀ p ∈ l, p.1 < n ∧ p.2 < m) : l.length ≤ n * m := by
  have h := nodup_len (m := (List.range n).flatMap fun i => (List.range m).map fun j => (i, j)) hn (fun p hp => by
    obtain ⟨h1, h2⟩ := hb p hp
    exact List.mem_flatMap.mpr ⟨p.1, List.mem_range.mpr h1, List.mem_map.mpr ⟨p.2, List.mem_range.mpr h2, rfl⟩⟩)
  rw [List.length_flatMap] at h
  simp only [List.length_map, List.length_range] at h
  have e : (List.map (fun _ : Nat => m) (List.range n)).sum = n * m := by
    rw [List.map_const', List.sum_replicate_nat, List.length_range]
  rw [e] at h
  exact h

def Okd (W V : Web) (s t : Option Nat) (x : Pt × List Nat) (d : Nat) (Q : Qu) : Prop :=
  sight W s x.1.1 d = sight V t x.1.2 d ∧ ∃ y, y ∈ Q ∧ y.1 = ((nxt W x.1.1 d).1, (nxt V x.1.2 d).1) ∧ y.2.length ≤ x.2.length + 1
structure BInv (W V : Web) (s t : Option Nat) (a b : Nat) (i : Nat) (Q : Qu) : Prop where
  nd : (Q.map (·.1)).Nodup
  bd : ∀ q ∈ Q, q.1.1 < W.length ∧ q.1.2 < V.length ∧ deg W q.1.1 = deg V q.1.2
  hd : Q[0]? = some ((a, b), [])
  srt : ∀ (j k : Nat) (x y : Pt × List Nat), j ≤ k → Q[j]? = some x → Q[k]? = some y → x.2.length ≤ y.2.length
  near : ∀ (x y : Pt × List Nat), Q[i]? = some x → y ∈ Q → y.2.length ≤ x.2.length + 1
  done : ∀ (j : Nat) (x : Pt × List Nat), j < i → Q[j]? = some x → ∀ d, d < deg W x.1.1 → Okd W V s t x d Q
  path : ∀ q ∈ Q, fin W a q.2 = some q.1.1 ∧ fin V b q.2 = some q.1.2
  len : ∀ (j : Nat) (x : Pt × List Nat), Q[j]? = some x → x.2.length ≤ j
  ile : i ≤ Q.length
theorem Okd.mono {W V : Web} {s t : Option Nat} {x : Pt × List Nat} {d : Nat} {Q : Qu} {z : Pt × List Nat} (h : Okd W V s t x d Q) : Okd W V s t x d (Q ++ [z]) :=
  ⟨h.1, let ⟨y, h1, h2⟩ := h.2; ⟨y, List.mem_append_left _ h1, h2⟩⟩
section
variable {W V : Web} {s t : Option Nat} {a b : Nat}
theorem BInv.size {i : Nat} {Q : Qu} (h : BInv W V s t a b i Q) : Q.length ≤ W.length * V.length := by
  have := pairs_len (l := Q.map (·.1)) (n := W.length) (m := V.length) h.nd (fun p hp => by
    obtain ⟨q, hq, rfl⟩ := List.mem_map.mp hp
    exact ⟨(h.bd q hq).1, (h.bd q hq).2.1⟩)
  simpa using this
theorem snoc_get {α : Type} {Q : List α} {z x : α} {j : Nat} (h : (Q ++ [z])[j]? = some x) : Q[j]? = some x ∨ (j = Q.length ∧ x = z) := by
  by_cases hj : j < Q.length
  · rw [List.getElem?_append_left hj] at h; exact .inl h
  · rw [List.getElem?_append_right (by omega)] at h
    have : j - Q.length = 0 := by
      rcases Nat.eq_zero_or_pos (j - Q.length) with e | e
      · exact e
      · rw [List.getElem?_eq_none (by simp only [List.length_cons, List.length_nil]; omega)] at h; cases h
    rw [this] at h
    simp at h
    exact .inr ⟨by omega, h.symm⟩
theorem snoc_get_left {α : Type} {Q : List α} {z x : α} {j : Nat} (h : Q[j]? = some x) : (Q ++ [z])[j]? = some x := by
  rw [List.getElem?_append_left (List.getElem?_eq_some_iff.mp h).1]; exact h
/-- a new pair behind the one at i -/
theorem BInv.push (cW : Closed W) (cV : Closed V) {i d : Nat} {Q : Qu} {x : Pt × List Nat} (h : BInv W V s t a b i Q) (hx : Q[i]? = some x) (hd : d < deg W x.1.1) (hs : sight W s x.1.1 d = sight V t x.1.2 d)
    (hn : ¬ ((nxt W x.1.1 d).1, (nxt V x.1.2 d).1) ∈ Q.map (·.1)) : BInv W V s t a b i (Q ++ [(((nxt W x.1.1 d).1, (nxt V x.1.2 d).1), x.2 ++ [d])]) := by
  have mx : x ∈ Q := List.mem_of_getElem? hx
  have hdV : d < deg V x.1.2 := by rw [← (h.bd x mx).2.2]; exact hd
  have il : i < Q.length := (List.getElem?_eq_some_iff.mp hx).1
  refine ⟨?_, ?_, ?_, ?_, ?_, ?_, ?_, ?_, ?_⟩
  · rw [List.map_append]
    exact List.nodup_append.mpr ⟨h.nd, by simp, by
      intro p hp q hq e
      simp only [List.map_cons, List.map_nil, List.mem_singleton] at hq
      subst hq; subst e
      exact hn hp⟩
  · intro q hq
    rcases List.mem_append.mp hq with hq | hq
    · exact h.bd q hq
    · rw [List.mem_singleton] at hq
      subst hq
      refine ⟨cW.lt _ _ hd, cV.lt _ _ hdV, ?_⟩
      unfold sight at hs
      injection hs with _ hs
      injection hs
  · exact snoc_get_left h.hd
  · intro j k y z hjk hy hz
    rcases snoc_get hz with hz | ⟨hk, rfl⟩
    · rcases snoc_get hy with hy | ⟨hj, rfl⟩
      · exact h.srt j k y z hjk hy hz
      · have := (List.getElem?_eq_some_iff.mp hz).1
        omega
    · rcases snoc_get hy with hy | ⟨hj, rfl⟩
      · have := h.near x y hx (List.mem_of_getElem? hy)
        simpa using this
      · exact Nat.le_refl _
  · intro y z hy hz
    rcases snoc_get hy with hy | ⟨hj, rfl⟩
    · rw [hx] at hy; cases hy
      rcases List.mem_append.mp hz with hz | hz
      · exact h.near x z hx hz
      · rw [List.mem_singleton] at hz
        subst hz; simp
    · omega
  · intro j y hj hy d' hd'
    rcases snoc_get hy with hy | ⟨hj', rfl⟩
    · exact (h.done j y hj hy d' hd').mono
    · omega
  · intro q hq
    rcases List.mem_append.mp hq with hq | hq
    · exact h.path q hq
    · rw [List.mem_singleton] at hq
      subst hq
      exact ⟨fin_snoc (h.path x mx).1 hd, fin_snoc (h.path x mx).2 hdV⟩
  · intro j y hy
    rcases snoc_get hy with hy | ⟨hj, rfl⟩
    · exact h.len j y hy
    · have := h.len i x hx
      simp only [List.length_append, List.length_cons, List.length_nil]
      omega
  · rw [List.length_append]
    have := h.ile
    omega
theorem BInv.start (ha : a < W.length) (hb : b < V.length) (hd : deg W a = deg V b) : BInv W V s t a b 0 [((a, b), [])] := by
  refine ⟨by simp, ?_, rfl, ?_, ?_, ?_, ?_, ?_, by simp⟩
  · intro q hq
    rw [List.mem_singleton] at hq
    subst hq; exact ⟨ha, hb, hd⟩
  · intro j k x y _ hx hy
    have hx := List.mem_of_getElem? hx
    have hy := List.mem_of_getElem? hy
    rw [List.mem_singleton] at hx hy
    subst hx; subst hy; exact Nat.le_refl _
  · intro x y hx hy
    rw [List.mem_singleton] at hy
    subst hy; simp
  · intro j x hj; omega
  · intro q hq
    rw [List.mem_singleton] at hq
    subst hq; exact ⟨rfl, rfl⟩
  · intro j x hx
    have hx := List.mem_of_getElem? hx
    rw [List.mem_singleton] at hx
    subst hx; simp
theorem BInv.next {i : Nat} {Q : Qu} {x : Pt × List Nat} (h : BInv W V s t a b i Q) (hx : Q[i]? = some x) (hok : ∀ d, d < deg W x.1.1 → Okd W V s t x d Q) : BInv W V s t a b (i + 1) Q := by
  refine ⟨h.nd, h.bd, h.hd, h.srt, ?_, ?_, h.path, h.len, (List.getElem?_eq_some_iff.mp hx).1⟩
  · intro y z hy hz
    have h1 := h.near x z hx hz
    have h2 := h.srt i (i + 1) x y (by omega) hx hy
    omega
  · intro j y hj hy d hd
    by_cases e : j = i
    · subst e
      rw [hx] at hy; cases hy
      exact hok d hd
    · exact h.done j y (by omega) hy d hd
/-- what a scan leaves -/
theorem scan_inv (cW : Closed W) (cV : Closed V) {i : Nat} {x : Pt × List Nat} : ∀ (n d : Nat) (Q : Qu), BInv W V s t a b i Q → Q[i]? = some x → d + n = deg W x.1.1 → (∀ d', d' < d → Okd W V s t x d' Q) →
    match scan W V s t x.1.1 x.1.2 x.2 n d Q with
    | .inl w => ∃ Q' d', BInv W V s t a b i Q' ∧ Q'[i]? = some x ∧ d' < deg W x.1.1 ∧ sight W s x.1.1 d' ≠ sight V t x.1.2 d' ∧ w = x.2 ++ [d']
    | .inr Q' => BInv W V s t a b i Q' ∧ Q'[i]? = some x ∧ ∀ d', d' < deg W x.1.1 → Okd W V s t x d' Q'
  | 0, d, Q, h, hx, hd, hk => by
    unfold scan
    exact ⟨h, hx, fun d' h' => hk d' (by omega)⟩
  | n + 1, d, Q, h, hx, hd, hk => by
    unfold scan
    by_cases hs : sight W s x.1.1 d = sight V t x.1.2 d
    · rw [if_pos hs]
      by_cases hm : ((nxt W x.1.1 d).1, (nxt V x.1.2 d).1) ∈ Q.map (·.1)
      · rw [if_pos hm]
        refine scan_inv cW cV n (d + 1) Q h hx (by omega) fun d' h' => ?_
        by_cases e : d' = d
        · subst e
          obtain ⟨y, hy, e⟩ := List.mem_map.mp hm
          exact ⟨hs, y, hy, e, h.near x y hx hy⟩
        · exact hk d' (by omega)
      · rw [if_neg hm]
        refine scan_inv cW cV n (d + 1) _ (h.push cW cV hx (by omega) hs hm) (snoc_get_left hx) (by omega) fun d' h' => ?_
        by_cases e : d' = d
        · subst e
          exact ⟨hs, _, List.mem_append_right _ (List.mem_singleton.mpr rfl), rfl, by simp⟩
        · exact (hk d' (by omega)).mono
    · rw [if_neg hs]
      exact ⟨Q, d, h, hx, by omega, hs, rfl⟩
/-- what the search tells -/
def Told (W V : Web) (s t : Option Nat) (a b : Nat) : Option (List Nat) → Prop
  | none => ∀ k, Lk W V s t k a b
  | some w => ¬ Lk W V s t w.length a b ∧ (∀ k, k < w.length → Lk W V s t k a b) ∧ (s = none → t = none → seenOf W a w ≠ seenOf V b w) ∧ w.length ≤ W.length * V.length
theorem BInv.lk {i : Nat} {Q : Qu} (h : BInv W V s t a b i Q) {L : Nat} (hL : ∀ (j : Nat) (x : Pt × List Nat), i ≤ j → Q[j]? = some x → L ≤ x.2.length) : ∀ (k : Nat) (x : Pt × List Nat), x ∈ Q → x.2.length + k ≤ L → Lk W V s t k x.1.1 x.1.2
  | 0, x, hx, _ => (h.bd x hx).2.2
  | k + 1, x, hx, hl => by
    obtain ⟨j, hj⟩ := List.mem_iff_getElem?.mp hx
    have hji : j < i := by
      by_cases e : j < i
      · exact e
      · have := hL j x (by omega) hj
        omega
    refine ⟨(h.bd x hx).2.2, fun d hd => ?_⟩
    obtain ⟨h1, y, hy, e, hy2⟩ := h.done j x hji hj d hd
    refine ⟨h1, ?_⟩
    have := BInv.lk h hL k y hy (by omega)
    rw [e] at this
    exact this
theorem bfs_told (cW : Closed W) (cV : Closed V) : ∀ (f i : Nat) (Q : Qu), BInv W V s t a b i Q → f + i = W.length * V.length + 1 → Told W V s t a b (bfs W V s t f i Q)
  | 0, i, Q, h, hf => by
    have h1 := h.size
    have h2 := h.ile
    omega
  | f + 1, i, Q, h, hf => by
    unfold bfs
    have ha : ((a, b), []) ∈ Q := List.mem_of_getElem? h.hd
    cases hx : Q[i]? with
    | none =>
      show ∀ k, Lk W V s t k a b
      intro k
      refine h.lk (L := k) (fun j y hj hy => ?_) k _ ha (by simp)
      have := (List.getElem?_eq_some_iff.mp hy).1
      have := List.getElem?_eq_none_iff.mp hx
      omega
    | some x =>
      have hs := scan_inv cW cV (deg W x.1.1) 0 Q h hx (by omega) (fun d hd => by omega)
      show Told W V s t a b (match scan W V s t x.1.1 x.1.2 x.2 (deg W x.1.1) 0 Q with
        | .inl w => some w
        | .inr Q' => bfs W V s t f (i + 1) Q')
      cases hsc : scan W V s t x.1.1 x.1.2 x.2 (deg W x.1.1) 0 Q with
      | inl w =>
        rw [hsc] at hs
        obtain ⟨Q', d, h', hx', hd, hne, rfl⟩ := hs
        have mx := List.mem_of_getElem? hx'
        obtain ⟨p1, p2⟩ := h'.path x mx
        have dg := (h'.bd x mx).2.2
        show ¬ _ ∧ _
        refine ⟨fun hl => ?_, fun k hk => ?_, fun es et => ?_, ?_⟩
        · have := hl.along p1 p2 (by simp)
          have e : (x.2 ++ [d]).length - x.2.length = 1 := by simp
          rw [e] at this
          exact hne (this.2 d hd).1
        · have hk' : k ≤ x.2.length := by simpa [Nat.lt_succ_iff] using hk
          have := h'.lk (L := x.2.length) (fun j y hj hy => h'.srt i j x y hj hx' hy) x.2.length ((a, b), []) (List.mem_of_getElem? h'.hd) (by simp)
          exact this.le hk'
        · subst es; subst et
          exact seen_unlike p1 p2 hd (by rw [← dg]; exact hd) hne
        · have h1 := h'.len i x hx'
          have h2 := (List.getElem?_eq_some_iff.mp hx').1
          have h3 := h'.size
          simp only [List.length_append, List.length_cons, List.length_nil]
          omega
      | inr Q' =>
        rw [hsc] at hs
        obtain ⟨h', hx', hok⟩ := hs
        exact bfs_told cW cV f (i + 1) Q' (h'.next hx' hok) (by omega)
theorem lp_told (cW : Closed W) (cV : Closed V) (ha : a < W.length) (hb : b < V.length) : Told W V s t a b (lp W V s t a b) := by
  unfold lp
  by_cases hd : deg W a = deg V b
  · rw [if_pos hd]
    exact bfs_told cW cV _ 0 _ (BInv.start ha hb hd) rfl
  · rw [if_neg hd]
    refine ⟨hd, fun k hk => by simp at hk, fun _ _ e => ?_, Nat.zero_le _⟩
    unfold seenOf goSeen at e
    simp at e
    exact hd e
/-! the same from the other side -/
def sw (x : Pt × List Nat) : Pt × List Nat := ((x.1.2, x.1.1), x.2)
theorem sw_mem {Q : Qu} {l r : Nat} : (r, l) ∈ (Q.map sw).map (·.1) ↔ (l, r) ∈ Q.map (·.1) := by
  simp only [List.mem_map]
  constructor
  · rintro ⟨_, ⟨x, hx, rfl⟩, e⟩
    refine ⟨x, hx, ?_⟩
    have e : (x.1.2, x.1.1) = (r, l) := e
    injection e with e1 e2
    rw [← e1, ← e2]
  · rintro ⟨x, hx, e⟩
    exact ⟨sw x, ⟨x, hx, rfl⟩, by unfold sw; rw [e]⟩
theorem scan_sw {l r : Nat} {way : List Nat} : ∀ (n d : Nat) (Q : Qu), scan V W t s r l way n d (Q.map sw) = (match scan W V s t l r way n d Q with | .inl w => .inl w | .inr Q' => .inr (Q'.map sw))
  | 0, d, Q => rfl
  | n + 1, d, Q => by
    unfold scan
    by_cases hs : sight W s l d = sight V t r d
    · rw [if_pos hs, if_pos hs.symm]
      by_cases hm : ((nxt W l d).1, (nxt V r d).1) ∈ Q.map (·.1)
      · rw [if_pos hm, if_pos (sw_mem.mpr hm)]
        exact scan_sw n (d + 1) Q
      · rw [if_neg hm, if_neg (fun z => hm (sw_mem.mp z))]
        have := scan_sw (l := l) (r := r) (way := way) n (d + 1) (Q ++ [(((nxt W l d).1, (nxt V r d).1), way ++ [d])])
        rw [List.map_append] at this
        exact this
    · rw [if_neg hs, if_neg (fun z => hs z.symm)]
theorem scan_deg {l r : Nat} {way : List Nat} : ∀ (n d : Nat) (Q Q' : Qu), scan W V s t l r way n d Q = .inr Q' → (∀ q ∈ Q, deg W q.1.1 = deg V q.1.2) → ∀ q ∈ Q', deg W q.1.1 = deg V q.1.2
  | 0, d, Q, Q', h, hq => by
    unfold scan at h; cases h; exact hq
  | n + 1, d, Q, Q', h, hq => by
    unfold scan at h
    by_cases hs : sight W s l d = sight V t r d
    · rw [if_pos hs] at h
      by_cases hm : ((nxt W l d).1, (nxt V r d).1) ∈ Q.map (·.1)
      · rw [if_pos hm] at h
        exact scan_deg n (d + 1) Q Q' h hq
      · rw [if_neg hm] at h
        refine scan_deg n (d + 1) _ Q' h fun q hq' => ?_
        rcases List.mem_append.mp hq' with hq' | hq'
        · exact hq q hq'
        · rw [List.mem_singleton] at hq'
          subst hq'
          unfold sight at hs
          injection hs with _ hs
          injection hs
    · rw [if_neg hs] at h; cases h
theorem bfs_sw : ∀ (f i : Nat) (Q : Qu), (∀ q ∈ Q, deg W q.1.1 = deg V q.1.2) → bfs V W t s f i (Q.map sw) = bfs W V s t f i Q
  | 0, _, _, _ => rfl
  | f + 1, i, Q, hq => by
    unfold bfs
    rw [List.getElem?_map]
    cases hx : Q[i]? with
    | none => rfl
    | some x =>
      have hdx := hq x (List.mem_of_getElem? hx)
      show (match scan V W t s x.1.2 x.1.1 x.2 (deg V x.1.2) 0 (Q.map sw) with
        | .inl w => some w
        | .inr Q' => bfs V W t s f (i + 1) Q') = (match scan W V s t x.1.1 x.1.2 x.2 (deg W x.1.1) 0 Q with
        | .inl w => some w
        | .inr Q' => bfs W V s t f (i + 1) Q')
      rw [← hdx, scan_sw]
      cases hsc : scan W V s t x.1.1 x.1.2 x.2 (deg W x.1.1) 0 Q with
      | inl w => rfl
      | inr Q' => exact bfs_sw f (i + 1) Q' (scan_deg _ _ _ _ hsc hq)
theorem lp_sw (a b : Nat) : lp V W t s b a = lp W V s t a b := by
  unfold lp
  by_cases hd : deg W a = deg V b
  · rw [if_pos hd, if_pos hd.symm, Nat.mul_comm V.length]
    exact bfs_sw _ 0 [((a, b), [])] fun q hq => by
      rw [List.mem_singleton] at hq
      subst hq; exact hd
  · rw [if_neg hd, if_neg fun z => hd z.symm]
end

/-! ### stability: so many doors as rooms are enough -/
section
variable {W : Web}
abbrev L0 (W : Web) (k a b : Nat) : Prop := Lk W W none none k a b
def Stab (W : Web) (j : Nat) : Prop := ∀ r s, r < W.length → s < W.length → L0 W j r s → L0 W (j + 1) r s
theorem stab_all (cW : Closed W) {j : Nat} (h : Stab W j) : ∀ m r s, r < W.length → s < W.length → L0 W j r s → L0 W (j + m) r s
  | 0, _, _, _, _, x => x
  | m + 1, r, s, hr, hs, x => by
    have y := h r s hr hs x
    refine ⟨y.1, fun d hd => ⟨(y.2 d hd).1, ?_⟩⟩
    exact stab_all cW h m _ _ (cW.lt _ _ hd) (cW.lt _ _ (by rw [← y.1]; exact hd)) (y.2 d hd).2
theorem filter_lt {α : Type} {p q : α → Bool} : ∀ {l : List α}, (∀ x ∈ l, p x = true → q x = true) → (∃ x ∈ l, q x = true ∧ p x = false) → (l.filter p).length < (l.filter q).length
  | [], _, h => by obtain ⟨x, hx, _⟩ := h; cases hx
  | a :: l, hi, h => by
    have hle : ∀ m : List α, (∀ x ∈ m, p x = true → q x = true) → (m.filter p).length ≤ (m.filter q).length := by
      intro m
      induction m with
      | nil => intro _; simp
      | cons b m ih =>
        intro hm
        have := ih fun x hx => hm x (List.mem_cons_of_mem _ hx)
        have hb := hm b List.mem_cons_self
        rw [List.filter_cons, List.filter_cons]
        cases hp : p b with
        | true => simp [hb hp]; exact this
        | false =>
          cases hq : q b with
          | true => simp; omega
          | false => simpa using this
    have hi' : ∀ x ∈ l, p x = true → q x = true := fun x hx => hi x (List.mem_cons_of_mem _ hx)
    rw [List.filter_cons, List.filter_cons]
    cases hp : p a with
    | true =>
      have hq := hi a List.mem_cons_self hp
      rw [hq]
      simp only [if_true, List.length_cons]
      obtain ⟨x, hx, h1, h2⟩ := h
      rcases List.mem_cons.mp hx with rfl | hx
      · rw [hp] at h2; cases h2
      · have := filter_lt hi' ⟨x, hx, h1, h2⟩
        omega
    | false =>
      cases hq : q a with
      | true =>
        have := hle l hi'
        simp; omega
      | false =>
        obtain ⟨x, hx, h1, h2⟩ := h
        rcases List.mem_cons.mp hx with rfl | hx
        · rw [hq] at h1; cases h1
        · simpa using filter_lt hi' ⟨x, hx, h1, h2⟩
open Classical
noncomputable def isFirst (W : Web) (k r : Nat) : Bool := decide (∀ s, s < r → ¬ L0 W k s r)
noncomputable def cnt (W : Web) (k : Nat) : Nat := ((List.range W.length).filter (isFirst W k)).length
theorem cnt_le (k : Nat) : cnt W k ≤ W.length := by
  unfold cnt
  have := List.length_filter_le (isFirst W k) (List.range W.length)
  rw [List.length_range] at this
  exact this
theorem least_lk (k r : Nat) : ∃ m, m ≤ r ∧ L0 W k m r ∧ isFirst W k m = true := by
  have : ∀ n r, r ≤ n → ∃ m, m ≤ r ∧ L0 W k m r ∧ isFirst W k m = true := by
    intro n
    induction n with
    | zero =>
      intro r hr
      have e : r = 0 := by omega
      subst e
      exact ⟨0, Nat.le_refl _, Lk.refl _ _, decide_eq_true fun s hs => by omega⟩
    | succ n ih =>
      intro r hr
      by_cases h : ∃ s, s < r ∧ L0 W k s r
      · obtain ⟨s, hs, hl⟩ := h
        obtain ⟨m, h1, h2, h3⟩ := ih s (by omega)
        exact ⟨m, by omega, h2.trans hl, h3⟩
      · exact ⟨r, Nat.le_refl _, Lk.refl _ _, decide_eq_true fun s hs hl => h ⟨s, hs, hl⟩⟩
  exact this r r (Nat.le_refl _)
theorem first_ne {k r s : Nat} (hr : isFirst W k r = true) (hs : isFirst W k s = true) (h : L0 W k r s) : r = s := by
  unfold isFirst at hr hs
  have hr := of_decide_eq_true hr
  have hs := of_decide_eq_true hs
  rcases Nat.lt_trichotomy r s with e | e | e
  · exact (hs r e h).elim
  · exact e
  · exact (hr s e h.symm).elim
theorem cnt_up {k : Nat} (h : ¬ Stab W k) : cnt W k < cnt W (k + 1) := by
  unfold cnt
  refine filter_lt (fun x _ hx => ?_) ?_
  · unfold isFirst at *
    have hx := of_decide_eq_true hx
    exact decide_eq_true fun s hs hl => hx s hs hl.down
  · refine Classical.byContradiction fun hno => h fun r s hr hs hl => ?_
    have all : ∀ x, x < W.length → isFirst W (k + 1) x = true → isFirst W k x = true := fun x hx h1 => by
      cases h2 : isFirst W k x with
      | true => rfl
      | false => exact (hno ⟨x, List.mem_range.mpr hx, h1, h2⟩).elim
    obtain ⟨r', h1, h2, h3⟩ := least_lk (W := W) (k + 1) r
    obtain ⟨s', g1, g2, g3⟩ := least_lk (W := W) (k + 1) s
    have e := first_ne (all r' (by omega) h3) (all s' (by omega) g3) (h2.down.trans (hl.trans g2.down.symm))
    subst e
    exact h2.symm.trans g2
theorem stab_ex (hn : 0 < W.length) : ∃ j, j < W.length ∧ Stab W j := by
  have key : ∀ k, (∃ j, j < k ∧ Stab W j) ∨ k + 1 ≤ cnt W k := by
    intro k
    induction k with
    | zero =>
      right
      unfold cnt
      refine List.length_pos_of_mem (a := 0) (List.mem_filter.mpr ⟨List.mem_range.mpr hn, ?_⟩)
      exact decide_eq_true fun s hs => by omega
    | succ k ih =>
      rcases ih with ⟨j, h1, h2⟩ | h
      · exact .inl ⟨j, by omega, h2⟩
      · by_cases hs : Stab W k
        · exact .inl ⟨k, by omega, hs⟩
        · have := cnt_up hs
          right; omega
  rcases key W.length with h | h
  · exact h
  · have := cnt_le (W := W) W.length
    omega
theorem lk_all (cW : Closed W) {a b : Nat} (ha : a < W.length) (hb : b < W.length) (h : L0 W W.length a b) (k : Nat) : L0 W k a b := by
  obtain ⟨j, hj, hs⟩ := stab_ex (W := W) (by omega)
  have hj' : L0 W j a b := h.le (by omega)
  by_cases hk : k ≤ j
  · exact hj'.le hk
  · have := stab_all cW hs (k - j) a b ha hb hj'
    rwa [show j + (k - j) = k by omega] at this
end

/-! ### renamed rooms, sheets -/
theorem lk_ren {W V : Web} {nu : Nat → Nat} (cW : Closed W) (hd : ∀ r, r < W.length → deg V (nu r) = deg W r) (he : ∀ r d, d < deg W r → nxt V (nu r) d = (nu (nxt W r d).1, (nxt W r d).2))
    (inj : ∀ r s, r < W.length → s < W.length → nu r = nu s → r = s) {z : Nat} (hz : z < W.length) : ∀ k r, r < W.length → Lk W V (some z) (some (nu z)) k r (nu r)
  | 0, r, hr => (hd r hr).symm
  | k + 1, r, hr => by
    refine ⟨(hd r hr).symm, fun d hd' => ?_⟩
    have hl := cW.lt r d hd'
    rw [he r d hd']
    refine ⟨?_, lk_ren cW hd he inj hz k _ hl⟩
    unfold sight
    rw [he r d hd', hd _ hl]
    have : decide (some (nxt W r d).1 = some z) = decide (some (nu (nxt W r d).1) = some (nu z)) := by
      by_cases e : (nxt W r d).1 = z
      · rw [e]; simp
      · rw [decide_eq_false (fun q => e (Option.some.inj q)), decide_eq_false (fun q => e (inj _ _ hl hz (Option.some.inj q)))]
    rw [this]
structure Cov (V W : Web) : Prop where
  deg : ∀ x, x < V.length → K18.deg V x = K18.deg W (x % W.length)
  lt : ∀ x d, d < K18.deg V x → (nxt V x d).1 < V.length
  fst : ∀ x d, d < K18.deg V x → (nxt V x d).1 % W.length = (nxt W (x % W.length) d).1
  snd : ∀ x d, d < K18.deg V x → (nxt V x d).2 = (nxt W (x % W.length) d).2
theorem Cov.refl {W : Web} (cW : Closed W) : Cov W W := by
  refine ⟨fun x hx => by rw [Nat.mod_eq_of_lt hx], fun x d hd => cW.lt x d hd, fun x d hd => ?_, fun x d hd => ?_⟩
  · rw [Nat.mod_eq_of_lt (lt_of_deg hd), Nat.mod_eq_of_lt (cW.lt x d hd)]
  · rw [Nat.mod_eq_of_lt (lt_of_deg hd)]
theorem Cov.lk {V W : Web} (c : Cov V W) : ∀ k x, x < V.length → Lk V W none none k x (x % W.length)
  | 0, x, hx => c.deg x hx
  | k + 1, x, hx => by
    refine ⟨c.deg x hx, fun d hd => ?_⟩
    have hl := c.lt x d hd
    have ih := Cov.lk c k _ hl
    rw [c.fst x d hd] at ih
    refine ⟨?_, ih⟩
    unfold sight
    rw [c.snd x d hd, ih.deg]
    simp
end K18
/-! K18 layer A: enumerate of a tuple. -/
namespace K18
open PySem PySem.Spec PyProof.Rows L2
theorem newCall_enum_1 (a : Value) : checkBuiltinCall "enumerate.__new__" ⟨[.type "enumerate", a], []⟩ = pure () := F.newCall_enumerate_1 a
theorem meets_enum_new1 {v : Value} {o : Obj} {H : Heap → Prop} (B : Begins v o H) :
    Meets (Builtin.«enumerate.__new__» ⟨[.type "enumerate", v], []⟩) (fun _ R s => H s.heap ∧
      R (.ok (.ret (.ref (s.heap.push o).objs.size))) { s with heap := (s.heap.push o).push { cls := .type "enumerate", data := .fields #[.none, .bool false, .ref s.heap.objs.size, rawInt 0, .none, .none] } }) :=
  .of_wp fun prog w A R s h => by
    obtain ⟨hp, g, d, tk, os⟩ := s; obtain ⟨h1, h⟩ := h
    have hsub := sub_enumerate
    have q1 : ∀ {A' : Around} {E : Value → Shared → Prop} {Q : Value → Shared → Prop}, Q (.ref hp.objs.size) ⟨hp.push o, g, d, tk, os⟩ → wpAny (model prog w) A' (pyIter v) Q E ⟨hp, g, d, tk, os⟩ :=
      fun q => B.iter prog w _ _ ⟨hp, g, d, tk, os⟩ _ h1 q
    wp_walk using q1
    refine wpAny_stack_any fun st => wpAny_pure ?_
    split
    · rename_i c _ _ _ _ _
      cases (c == Value.type "enumerate")
      · wp_walk using q1
        exact ⟨_, rfl, h⟩
      · wp_walk using q1
        exact ⟨_, rfl, h⟩
    · wp_walk using q1
      exact ⟨_, rfl, h⟩
theorem enum_begins1 {prog : Program} {w : World} {A : Around} {E : Value → Shared → Prop} {s : Shared} {v : Value} {o : Obj} {H : Heap → Prop} {Q : Value → Shared → Prop} (B : Begins v o H) (h1 : H s.heap)
    (h : ∀ h', IsEnum h' (s.heap.objs.size + 1) s.heap.objs.size 0 .none → h'.get? s.heap.objs.size = some o → h'.objs.size = s.heap.objs.size + 2 →
      (∀ b o, s.heap.get? b = some o → h'.get? b = some o) → Q (.ref (s.heap.objs.size + 1)) { s with heap := h' }) :
    wpAny (model prog w) A (call (.type "enumerate") [v]) Q E s := by
  refine callType_new F.called_enumerate (by decide) (F.typeCall_enumerate_1 _) (F.newCall_enumerate_1 _) (fun obj => F.args_object_init_2 obj _) F.entry_enumerate_new
    (meets_enum_new1 B) ⟨h1, ?_⟩
  have hz : (s.heap.push o).objs.size = s.heap.objs.size + 1 := Heap.size_push ..
  show _ ∧ _
  rw [hz]
  have he : IsEnum ((s.heap.push o).push { cls := .type "enumerate", data := .fields #[.none, .bool false, .ref s.heap.objs.size, rawInt 0, .none, .none] }) (s.heap.objs.size + 1) s.heap.objs.size 0 .none := by
    have := Heap.get?_push_size (s.heap.push o) (o := { cls := .type "enumerate", data := .fields #[.none, .bool false, .ref s.heap.objs.size, rawInt 0, .none, .none] }) rfl
    rw [hz] at this; exact this
  refine ⟨⟨_, he, rfl⟩, h _ he (Heap.get?_push_of_some _ (Heap.get?_push_size _ B.free)) (by rw [Heap.size_push, hz]) fun b o x => Heap.get?_push_of_some _ (Heap.get?_push_of_some _ x)⟩
theorem pyNext_enumT_end {prog : Program} {w : World} {A : Around} {E : Value → Shared → Prop} {s : Shared} {e it l : Addr} {k : Nat} {i : Int} {items : Array Value} {old : Value} {Q : Option Value → Shared → Prop}
    (hh : A.in1.handled = none) (he : IsEnum s.heap e it i old) (hit : s.heap.IsTupleIter it l k) (hl : s.heap.IsTuple l items) (hx : items[k]? = none)
    (hQ : ∀ h', Heap.ExtBut it s.heap h' → Q none { s with heap := h' }) : wpAny (model prog w) A (pyNext (.ref e)) Q E s := by
  have hT : s.TypeIs (.ref e) "enumerate" := ⟨_, he, rfl⟩
  unfold pyNext
  refine wpAny_bind (wpAny_attempt (wpAny_callSpecial?_slot (name := Str.ofString "__next__") hT F.slot_enumerate_next
    (wpAny_call_entry F.slot_enumerate_next hT F.entry_enumerate_next ?_ (F.args_enumerate_next_1 _))))
  show wpAny _ _ (field (.ref e) 2 >>= _) _ _ _
  refine wpAny_bind (wpAny_field he rfl (x := .ref it) rfl ?_)
  refine wpAny_bind (wpAny_nextOf_tuple_end hh hit hl hx fun h' x he' hx' => ?_)
  obtain ⟨o, ho, hc⟩ := hx'
  refine wpAny_bind (wpAny_isInstance (T := "StopIteration") (b := true) ⟨o, ho, hc⟩ isSubtype_stop ?_)
  exact wpAny_pure (hQ _ he')
/-- the tuple at a as it stands at each turn, each item in a new pair -/
def IteT (K : PySem.W.Frag) (a : Addr) : It :=
  ⟨fun i H => ∃ (xs : List V) (x : V), SqT K H a xs ∧ xs[i]? = some x, fun i H v H' => ∃ T x, v = .ref T ∧ H T = none ∧ H' = upd H T (.tup [.int (i : Nat), x]) ∧ ∀ xs, SqT K H a xs → xs[i]? = some x, fun i H => ∃ xs : List V, SqT K H a xs ∧ xs.length ≤ i⟩
theorem turn_enumT {P : Program} {w : World} {K : PySem.W.Frag} {elts : List Expr} {kk : Nat} {tpos : Pos} (a e it : Addr) (hae : a ≠ e) (hai : a ≠ it) :
    Turn P w K (.Tuple elts kk tpos) (IteT K a) [e, it] e (fun i h => (∃ old, IsEnum h e it ((i : Nat) : Int) old) ∧ h.IsTupleIter it a i ∧ e ≠ it) where
  mem := by simp
  obj := fun i h st b hb => by
    obtain ⟨⟨old, he⟩, ⟨o, ho, hc, hd⟩, _⟩ := st
    have e' : b = e ∨ b = it := by simpa using hb
    rcases e' with z | z
    · rw [z]; exact ⟨_, he, fun v q => nomatch q⟩
    · rw [z]; exact ⟨o, ho, fun v q => by rw [hd] at q; cases q⟩
  keep := fun i h h' st k => let ⟨⟨old, he⟩, hi, hne⟩ := st; ⟨⟨old, k e (by simp) _ he⟩, hi.at fun o q => k it (by simp) o q, hne⟩
  item := by
    intro X hP hw hK hc i pins s σ H E I hf st hg
    subst hP hw hK
    obtain ⟨⟨old, he⟩, hit, hne⟩ := st
    obtain ⟨xs, x, hq, hx⟩ := hg
    obtain ⟨its, rv, p, hz⟩ := I.tuple hq
    obtain ⟨u, hu, ru⟩ := rv.get hx
    have hel : e < s.heap.objs.size := Heap.lt_size he
    have hil : it < s.heap.objs.size := by obtain ⟨_, q, _⟩ := hit; exact Heap.lt_size q
    have hil2 : i < its.toArray.size := by
      have := (List.getElem?_eq_some_iff.mp hu).1
      simpa using this
    refine wpAny_pyNext_enum_itemD (Draws.tuple (A := X.A.in1) (I.ok.hd hc) it a hai its.toArray) he ⟨hit, p⟩ hil2 hne (by simp only [List.mem_cons, List.not_mem_nil, or_false, not_or]; exact ⟨hne, Ne.symm hae⟩) fun x' h' tk hx' ho hst hT hsz hk => ?_
    have ex : x' = u := by
      have : its.toArray[i]? = some u := by simpa using hu
      rw [this] at hx'
      exact (Option.some.inj hx').symm
    subst ex
    refine ⟨_, rfl, wpAny_letOwnedTupleGo_enum (s := { s with heap := h', toks := tk + 1 }) ho fun h'' he' sb => ?_⟩
    have hT2 : h''.get? s.heap.objs.size = some { cls := .type "tuple", data := .seq #[.int i tk, x'] } := (sb.2 _ (Nat.ne_of_gt hel)).trans hT
    have new : ObjOk X.prog X.w (upd H s.heap.objs.size (.tup [.int (i : Nat), x])) h'' s.heap.objs.size (.tup [.int (i : Nat), x]) :=
      ⟨by show 2 ≤ sizeLine; decide, [.int i tk, x'], .cons ⟨_, rfl⟩ (.cons ru .nil), ⟨_, hT2, rfl, _, rfl⟩⟩
    have I1 : Inv X pins σ (upd H s.heap.objs.size (.tup [.int (i : Nat), x])) { s with heap := h'', toks := tk + 1 } :=
      I.turnedNew (ch := [e, it]) (fun b ob hb q => (sb.2 b (fun z => hb (by simp [z]))).trans (hk b ob (fun z => hb (by simp [z])) (fun z => hb (by simp [z])) q)) hf (Nat.le_refl _) new
    refine ⟨.ref s.heap.objs.size, _, I1, rfl, ⟨_, x, rfl, I.hok.fresh (Nat.le_refl _), rfl, fun ys hy => by rw [I.tuple_inj hy hq]; exact hx⟩, ⟨⟨x', ?_⟩, hst.1.at fun o q => (sb.2 it (Ne.symm hne)).trans q, hne⟩, fun b hb => ?_⟩
    · have e1 : ((i + 1 : Nat) : Int) = (i : Int) + 1 := by omega
      rw [e1]; exact he'
    · have hb' : b < s.heap.objs.size := by
        have e' : b = e ∨ b = it := by simpa using hb
        rcases e' with z | z
        · rw [z]; exact hel
        · rw [z]; exact hil
      rw [upd_ne (Nat.ne_of_lt hb')]
      exact (hf b hb).1
  done := by
    intro X hP hw hK hc i pins s σ H E I hf st hg
    subst hP hw hK
    obtain ⟨⟨old, he⟩, hit, hne⟩ := st
    obtain ⟨xs, hq, hx⟩ := hg
    obtain ⟨its, rv, p, hz⟩ := I.tuple hq
    obtain ⟨f0, f1, f2, f3, f4, f5⟩ := hf it (by simp)
    have hl := rv.length
    refine pyNext_enumT_end (I.ok.hd hc) he hit p (by simp; omega) fun h' eb => ⟨rfl, I.turned (t' := s.toks) (fun b o hb q => eb b o hb q) f0 f1 f3 f4 f5⟩
  self := fun A i s Q E st h => let ⟨⟨_, he⟩, _⟩ := st; wpAny_pyIter_enum he h
def iEnumT (K : PySem.W.Frag) (ta : TA) : TI := fun σ H R => ta σ H fun vs H1 => ∃ a xs, vs = [.ref a] ∧ SqT K H1 a xs ∧ R (IteT K a) H1
theorem pi_enumT {X : Cx} {e : Expr} {ta : TA} {p pos tpos : Pos} {elts : List Expr} {kk : Nat} (hg : Gl X "enumerate") (hm : X.mg "enumerate" = none) (ha : PA X [e] ta) (hs : starEach [e] X.env = [(false, eval e X.env)] := by rfl) :
    PI X (.Tuple elts kk tpos) (.Call (.Name "enumerate" p) [e] [] pos) (iEnumT X.K ta) := by
  refine ⟨fun pins s σ H R I h => ?_⟩
  refine Call_ (ld_blt I hg hm boot_enumerate (PyProof.Rows.callWith_type1 (thn (ha.run pos pins s σ H _ I h) fun us s1 ⟨vs, H1, I1, r1, q1⟩ => ?_) hs rfl))
  obtain ⟨a, xs, ex, hq, q⟩ := q1
  subst ex
  cases r1 with
  | cons r rr =>
    cases rr
    cases r
    obtain ⟨its, rv, p', hz⟩ := I1.tuple hq
    have la : a < s1.heap.objs.size := p'.lt
    refine enum_begins1 (begins_tuple a its.toArray) p' fun h' he hit hsz hk => wpAny_pyIter_enum he ?_
    have I2 : Inv X pins σ H1 { s1 with heap := h' } := I1.kept (t' := s1.toks) hk
    refine ⟨s1.heap.objs.size + 1, [s1.heap.objs.size + 1, s1.heap.objs.size], _, _, H1, rfl, I2, turn_enumT a (s1.heap.objs.size + 1) s1.heap.objs.size (Nat.ne_of_lt (Nat.lt_succ_of_lt la)) (Nat.ne_of_lt la), ⟨⟨.none, he⟩, ⟨_, hit, rfl, rfl⟩, Nat.succ_ne_self _⟩, fun b hb => ?_, q⟩
    have e' : b = s1.heap.objs.size + 1 ∨ b = s1.heap.objs.size := by simpa using hb
    have hle : s1.heap.objs.size ≤ b := by
      rcases e' with z | z
      · rw [z]; exact Nat.le_add_right _ _
      · rw [z]; exact Nat.le_refl _
    exact I1.fpOk hle (I1.hok.fresh hle)
/-- a loop over enumerate of a tuple -/
theorem for_enumT {K : PySem.W.Frag} {a : Addr} {xs : List V} {g : TG} {tb : TS} {D : Ends} {σ : L2.St} {H : Hp} (Pv : Nat → L2.St → Hp → Prop) (h0 : Pv 0 σ H) (hq : ∀ i σ H, Pv i σ H → SqT K H a xs)
    (hs : ∀ (i : Nat) (x : V) (T : Addr) (σ : L2.St) (H : Hp), xs[i]? = some x → Pv i σ H → H T = none → g (.ref T) σ (upd H T (.tup [.int (i : Nat), x])) fun σ2 H2 => tb { D with nx := Pv (i + 1), ct := Pv (i + 1), bk := D.nx } σ2 H2) (hd : ∀ σ H, Pv xs.length σ H → D.nx σ H) :
    ∃ W : Nat → Nat → L2.St → Hp → Prop, (∃ m, W 0 m σ H) ∧ ∀ i m σ H, W i m σ H →
      ((IteT K a).stop i H ∧ D.nx σ H) ∨ ((IteT K a).go i H ∧ ∃ N : L2.St → Hp → Prop, (∀ σ' H', N σ' H' → ∃ m', m' < m ∧ W (i + 1) m' σ' H') ∧ ∀ v H', (IteT K a).yld i H v H' → g v σ H' fun σ2 H2 => tb { D with nx := N, ct := N, bk := D.nx } σ2 H2) := by
  refine ⟨fun i m σ H => m = xs.length - i ∧ i ≤ xs.length ∧ Pv i σ H, ⟨xs.length, rfl, Nat.zero_le _, h0⟩, ?_⟩
  rintro i m σ H ⟨rfl, hi, p⟩
  have qx := hq i σ H p
  by_cases hlt : i < xs.length
  · have hx : xs[i]? = some xs[i] := List.getElem?_eq_getElem hlt
    refine .inr ⟨⟨xs, _, qx, hx⟩, Pv (i + 1), fun σ' H' p' => ⟨xs.length - (i + 1), by omega, rfl, hlt, p'⟩, fun v H' y => ?_⟩
    obtain ⟨T, x', rfl, hT, rfl, f1⟩ := y
    exact hs i x' T σ H (f1 xs qx) p hT
  · have e : i = xs.length := by omega
    subst e
    exact .inl ⟨⟨xs, qx, Nat.le_refl _⟩, hd σ H p⟩
/-- a loop over enumerate of a list -/
theorem for_enumL {K : PySem.W.Frag} {a : Addr} {xs : List V} {g : TG} {tb : TS} {D : Ends} {σ : L2.St} {H : Hp} (Pv : Nat → L2.St → Hp → Prop) (h0 : Pv 0 σ H) (hq : ∀ i σ H, Pv i σ H → SqL K H a xs)
    (hs : ∀ (i : Nat) (x : V) (T : Addr) (σ : L2.St) (H : Hp), xs[i]? = some x → Pv i σ H → H T = none → g (.ref T) σ (upd H T (.tup [.int (i : Nat), x])) fun σ2 H2 => tb { D with nx := Pv (i + 1), ct := Pv (i + 1), bk := D.nx } σ2 H2) (hd : ∀ σ H, Pv xs.length σ H → D.nx σ H) :
    ∃ W : Nat → Nat → L2.St → Hp → Prop, (∃ m, W 0 m σ H) ∧ ∀ i m σ H, W i m σ H →
      ((Ite K a).stop i H ∧ D.nx σ H) ∨ ((Ite K a).go i H ∧ ∃ N : L2.St → Hp → Prop, (∀ σ' H', N σ' H' → ∃ m', m' < m ∧ W (i + 1) m' σ' H') ∧ ∀ v H', (Ite K a).yld i H v H' → g v σ H' fun σ2 H2 => tb { D with nx := N, ct := N, bk := D.nx } σ2 H2) := by
  refine ⟨fun i m σ H => m = xs.length - i ∧ i ≤ xs.length ∧ Pv i σ H, ⟨xs.length, rfl, Nat.zero_le _, h0⟩, ?_⟩
  rintro i m σ H ⟨rfl, hi, p⟩
  have qx := hq i σ H p
  by_cases hlt : i < xs.length
  · have hx : xs[i]? = some xs[i] := List.getElem?_eq_getElem hlt
    refine .inr ⟨⟨xs, _, qx, hx⟩, Pv (i + 1), fun σ' H' p' => ⟨xs.length - (i + 1), by omega, rfl, hlt, p'⟩, fun v H' y => ?_⟩
    obtain ⟨T, x', rfl, hT, rfl, f1⟩ := y
    exact hs i x' T σ H (f1 xs qx) p hT
  · have e : i = xs.length := by omega
    subst e
    exact .inl ⟨⟨xs, qx, Nat.le_refl _⟩, hd σ H p⟩
end K18
/-! K18 layer B: dicts with tuple keys displayed, made of pairs, sorted; dicts with nested tuple keys. -/
namespace K18
open PySem PySem.Spec PyProof.Rows L2
/-! ### {t: v} -/
def tDispT (tk tv : TE) : TE := fun σ H Q => ∀ p, H p = none → tk σ (upd H p (.dT [])) fun x H1 => tv σ H1 fun y H2 => H2 p = some (.dT []) ∧ ∃ (b : Addr) (ks : List Key), x = .ref b ∧ H2 b = some (.tup (ks.map kV)) ∧ Q (.ref p) (upd H2 p (.dT [(ks, y)]))
theorem sk1 {ks : List Key} {b : Addr} {v : Value} : storedH ([] : List (List Key × Addr × Value)) ks b v = [(ks, b, v)] := by simp [storedH, atKey]
/-! ### dict(list of (tuple, value)) -/
def putAllT (kvs more : List (List Key × V)) : List (List Key × V) := more.foldl (fun acc kv => putK acc kv.1 kv.2) kvs
theorem KT.putAll {H : Hp} : ∀ {more : List (List Key × V)} {rs : List (List Key × Addr × Value)} {kvs : List (List Key × V)} {xs : List (List Key × Addr × Value)}, KT H more rs → KT H kvs xs → KT H (putAllT kvs more) (storedAllH xs rs) := by
  intro more rs kvs xs r
  induction r generalizing kvs xs with
  | nil => intro q; exact q
  | @cons p q ps qs h t ih =>
    intro r0
    obtain ⟨h1, h2, h3⟩ := h
    have e : KT H (putK kvs p.1 p.2) (storedH xs q.1 q.2.1 q.2.2) := by
      rw [← h1]; exact KT.put r0 p.1 h2 h3
    exact ih e
theorem length_putAllT : ∀ (more kvs : List (List Key × V)), (putAllT kvs more).length ≤ kvs.length + more.length
  | [], kvs => by show kvs.length ≤ kvs.length + 0; omega
  | p :: r, kvs => by
    have h1 := length_putAllT r (putK kvs p.1 p.2)
    have h2 := length_putK kvs p.1 p.2
    show (putAllT (putK kvs p.1 p.2) r).length ≤ _
    rw [List.length_cons]; omega
section
variable {X : Cx}
/-- each item of a list: a tuple of a key (tuple) and a value -/
def PairsT (H : Hp) : List V → List (List Key × V) → Prop := Paired fun x kv => ∃ p b, x = .ref p ∧ H p = some (.tup [.ref b, kv.2]) ∧ H b = some (.tup (kv.1.map kV))
theorem pairsT_vals {pins : List (Addr × Obj)} {σ : L2.St} {H : Hp} {s : Shared} (I : Inv X pins σ H s) : ∀ {xs : List V} {kvs : List (List Key × V)} {its : List Value}, PairsT H xs kvs → Vals xs its → ∃ ps : List (List Key × Addr × Value), ∃ Ts : List Addr,
    KT H kvs ps ∧ Ts.length = ps.length ∧ its = Ts.map Value.ref ∧ ∀ (j : Nat) (b : Addr) (v : Value) (k : List Key), ps[j]? = some (k, b, v) → ∃ T, Ts[j]? = some T ∧ PairAt s.heap T (.ref b) v
  | _, _, _, .nil, .nil => ⟨[], [], .nil, rfl, rfl, fun j b v k h => by simp at h⟩
  | _, _, _, .cons h t, .cons r rr => by
    obtain ⟨p, b, rfl, h1, h2⟩ := h
    cases r
    obtain ⟨ps, Ts, q1, q2, q3, q4⟩ := pairsT_vals I t rr
    obtain ⟨_, its2, r2, ip⟩ := I.hok _ _ h1
    obtain ⟨u1, u2, rfl, ru1, ru2⟩ := vals2 r2
    cases ru1
    refine ⟨(_, b, u2) :: ps, p :: Ts, .cons ⟨rfl, h2, ru2⟩ q1, by simp [q2], by simp [q3], fun j b' v k e => ?_⟩
    cases j with
    | zero =>
      simp only [List.getElem?_cons_zero, Option.some.injEq, Prod.mk.injEq] at e
      obtain ⟨_, rfl, rfl⟩ := e
      exact ⟨p, rfl, .inl ip⟩
    | succ j =>
      simp only [List.getElem?_cons_succ] at e ⊢
      exact q4 j b' v k e
def rDictT (K : PySem.W.Frag) : List V → Hp → VK → Prop := fun xs H Q => ∃ (a : Addr) (ys : List V) (kvs : List (List Key × V)), xs = [.ref a] ∧ SqL K H a ys ∧ PairsT H ys kvs ∧ ∀ p, H p = none → Q (.ref p) (upd H p (.dT (putAllT [] kvs)))
theorem call_dictT (hcalm : X.calm = true) (hu : X.A.units + 64 < cLine) : CallR X (.type "dict") (rDictT X.K) := by
  intro pins s σ H xs us Q I r q
  obtain ⟨a, ys, kvs, rfl, hq, hp, q⟩ := q
  obtain ⟨u, rfl, rx⟩ := vals1 r
  cases rx
  obtain ⟨its, rv, pl, hz⟩ := I.list hq
  obtain ⟨ps, Ts, rel, hl, eit, hpr⟩ := pairsT_vals I hp rv
  have hlen : kvs.length = ps.length := Paired.length rel
  have hps : ps.length ≤ sizeLine := by
    have h1 := rv.length
    have h2 : its.length = ps.length := by rw [eit, List.length_map, hl]
    have h3 : ys.length = kvs.length := Paired.length hp
    omega
  obtain ⟨o, n, ho, hc, hd, hdat⟩ := pl
  refine PySem.call_dict_pairsH (knd := tupleKind (mixKind X.prog X.w)) (ps := ps) (PairArg.list a its.toArray (fun j => Ts.getD j 0) (ps.map fun x => (Value.ref x.2.1, x.2.2))) (I.ok.hd hcalm) ?_ ⟨⟨o, n, ho, hc, hd, hdat⟩, ?_, ?_⟩ ⟨by simp, fun i key v e => ?_⟩ (fun h' hk x hx => ?_) (by simpa using hps) fun h' tk hd' k => ?_
  · refine tupleKind_room_in1 (A := X.A.in1) ?_
    exact Nat.lt_of_le_of_lt (show X.A.in1.units + 1 ≤ X.A.units + 64 by
      show X.A.units + 1 + 1 ≤ X.A.units + 64
      omega) hu
  · simp [eit, hl]
  · intro j k v e
    rw [List.getElem?_map] at e
    cases ej : ps[j]? with
    | none => rw [ej] at e; cases e
    | some x =>
      rw [ej] at e
      cases e
      obtain ⟨T, hT, hP⟩ := hpr j x.2.1 x.2.2 x.1 ej
      have eT : Ts.getD j 0 = T := by rw [List.getD_eq_getElem?_getD, hT]; rfl
      refine ⟨?_, by show PairAt s.heap (Ts.getD j 0) _ _; rw [eT]; exact hP⟩
      show its.toArray[j]? = some (.ref (Ts.getD j 0))
      rw [eT, List.getElem?_toArray, eit, List.getElem?_map, hT]
      rfl
  · have e : (ps.map fun x => (Value.ref x.2.1, x.2.2))[i]? = some (key, v) := e
    rw [List.getElem?_map] at e
    cases ei : ps[i]? with
    | none => rw [ei] at e; cases e
    | some x =>
      rw [ei] at e
      cases e
      exact ⟨x.1, x.2.1, rfl, rfl⟩
  · obtain ⟨j, hj⟩ := List.mem_iff_getElem?.mp hx
    obtain ⟨kv, hkv, e1, e2, e3⟩ : ∃ kv : List Key × V, kvs[j]? = some kv ∧ kv.1 = x.1 ∧ H x.2.1 = some (.tup (kv.1.map kV)) ∧ RelV kv.2 x.2.2 := by
      have all : ∀ {l : List (List Key × V)} {m : List (List Key × Addr × Value)}, KT H l m → ∀ (j : Nat) (x : List Key × Addr × Value), m[j]? = some x → ∃ kv : List Key × V, l[j]? = some kv ∧ kv.1 = x.1 ∧ H x.2.1 = some (.tup (kv.1.map kV)) ∧ RelV kv.2 x.2.2 := by
        intro l m q
        induction q with
        | nil => intro j x h; simp at h
        | cons h t ih =>
          intro j x hx
          cases j with
          | zero => simp at hx; subst hx; exact ⟨_, rfl, h⟩
          | succ j => simp only [List.getElem?_cons_succ] at hx ⊢; exact ih j x hx
      exact all rel j x hj
    have ok := key_of (P := X.prog) (w := X.w) I.hok e2
    rw [e1] at ok
    obtain ⟨ob, its2, n2, g1, g2, g3, g4⟩ := ok
    exact ⟨ob, its2, n2, hk _ _ (Nat.ne_of_lt (Heap.lt_size g1)) (by simp) g1, g2, g3, g4⟩
  · have hm : (s.heap.objs.size == sysModules) = false := beq_eq_false_iff_ne.mpr (Nat.ne_of_gt I.big)
    have hle : (putAllT [] kvs).length ≤ sizeLine := by
      have := length_putAllT kvs []
      rw [List.length_nil, Nat.zero_add] at this
      omega
    have hn := I.hok.fresh (Nat.le_refl s.heap.objs.size)
    obtain ⟨oo, es, ep, g1, g2, g3, g4, _, g5⟩ := hd'
    refine ⟨.ref s.heap.objs.size, upd H s.heap.objs.size (.dT (putAllT [] kvs)), I.laid (t' := tk) (fun b ob e => k b ob (by simp) e) (Nat.le_refl _) ?_, rfl, q _ hn⟩
    exact ⟨hle, hm, _, ((KT.putAll rel .nil : KT H (putAllT [] kvs) _)).keeps (fun c zs ec => by rw [upd_ne (ne_of_none ec hn)]; exact ec), oo, es, ep, g1, g2, g3, g4, g5⟩
theorem pe_dispT {k v : Expr} {tk tv : TE} {pos : Pos} (hu : X.A.units + 64 < cLine) (hk : PE X k tk) (hv : PE X v tv) : PE X (.Dict [some k] [v] pos) (tDispT tk tv) := by
  refine ⟨fun pins s σ H Q I h => ?_⟩
  have hn := I.hok.fresh (Nat.le_refl s.heap.objs.size)
  have I1 := I.laid (a := s.heap.objs.size) (o := .dT []) (h' := s.heap.push { cls := .type "dict", data := .dict #[] }) (t' := s.toks) (fun _ _ q => Heap.get?_push_of_some _ q) (Nat.le_refl _) (dt_empty s.heap I.big)
  have hshape := zip_pairTrees [some k] [v] X.env pos rfl rfl
  have hne : pairTrees [some k] [v] X.env pos ≠ [] := fun e => nomatch e
  rw [arm_eval_Dict, hshape, dictDisplay_pairs (pairTrees [some k] [v] X.env pos) hne (by show 1 < _; decide)]
  refine wpAny_bind (wpAny_standAt (wpAny_bind (wpAny_subDictH (knd := tupleKind (mixKind X.prog X.w)) (Q := fun d s' => wpAny (model X.prog X.w) X.A (pure (Value.ref d)) (EP X pins σ Q) X.xe s') (show X.A.units < cLine by omega) (by show 1 ≤ 15; decide) ?_)))
  refine pairTrees_cons_walk (thn (hk.run pins _ σ _ _ I1 (h _ hn)) fun u s1 ⟨x, H1, I2, rx, q1⟩ => thn (hv.run pins s1 σ H1 _ I2 q1) fun w2 s2 ⟨y, H2, I3, ry, q2⟩ => pairTrees_nil_walk ?_)
  obtain ⟨e, b, ks, rfl, eb, q3⟩ := q2
  cases rx
  obtain ⟨z, hd, xs0, r0, dd⟩ := dt_of I3.hok e
  cases r0
  refine ⟨[(ks, b, w2)], ⟨rfl, rfl, key_of I3.hok eb, trivial⟩, dd, fun h' tk dd' hs => wpAny_pure ⟨.ref s.heap.objs.size, _, ?_, rfl, q3⟩⟩
  have e1 : storedAllH ([] : List (List Key × Addr × Value)) [(ks, b, w2)] = [(ks, b, w2)] := sk1
  rw [e1] at dd'
  obtain ⟨q, es, ep, hq, h2, h3, h4, _, h5⟩ := dd'
  refine d_write I3 (by rw [e]; exact True.intro) hs ⟨q, hq⟩ ⟨by show 1 ≤ sizeLine; decide, hd, _, .cons ⟨rfl, ?_, ry⟩ .nil, q, es, ep, hq, h2, h3, h4, h5⟩
  rw [upd_ne (ne_of eb e (fun z => nomatch z))]
  exact eb
/-! ### sorted(dict of pairs of ints) -/
def rSortDT : List V → Hp → VK → Prop := fun xs H Q => ∃ (a : Addr) (kvs : List (List Key × V)), xs = [.ref a] ∧ H a = some (.dT kvs) ∧ (∀ kv ∈ kvs, ∃ i j : Int, kv.1 = [Sum.inl i, Sum.inl j]) ∧
  ∀ (bs0 bs : List Addr) (p : Addr), IsKeys H kvs bs0 → bs.Perm bs0 → H p = none → Q (.ref p) (upd H p (.lst (bs.map V.ref)))
theorem refs_perm {bs0 : List Addr} {out : List Value} (h : out.Perm (bs0.map Value.ref)) : ∃ bs : List Addr, out = bs.map Value.ref ∧ bs.Perm bs0 := by
  have h2 := h.map (fun v : Value => match v with | .ref a => a | _ => 0)
  rw [List.map_map] at h2
  have e : (List.map ((fun v : Value => match v with | .ref a => a | _ => 0) ∘ Value.ref) bs0) = bs0 := by
    rw [show ((fun v : Value => match v with | .ref a => a | _ => 0) ∘ Value.ref) = id from rfl, List.map_id]
  rw [e] at h2
  refine ⟨_, ?_, h2⟩
  rw [List.map_map]
  have : ∀ v ∈ out, (Value.ref ∘ fun v : Value => match v with | .ref a => a | _ => 0) v = v := fun v hv => by
    obtain ⟨a, _, rfl⟩ := List.mem_map.mp (h.mem_iff.mp hv)
    rfl
  exact (List.map_id out).symm.trans (List.map_congr_left fun v hv => (this v hv).symm)
theorem call_sortedDT (hcalm : X.calm = true) : CallR X (.builtin "sorted") rSortDT := by
  intro pins s σ H xs us Q I r q
  obtain ⟨a, kvs, rfl, hd, hks, q⟩ := q
  obtain ⟨u, rfl, rx⟩ := vals1 r
  cases rx
  obtain ⟨z, hs, ks, pr, o, es, ep, ho, hx, hdt, he, hn⟩ := (show ObjOk X.prog X.w H s.heap a (.dT kvs) from I.hok a _ hd)
  have l1 : es.size = ks.length := size_of_entries he
  have l2 : kvs.length = ks.length := Paired.length pr
  refine Calls.call_function_entry PyProof.Rows.kind_sorted PyProof.Rows.plain_sorted PyProof.Rows.entry_sorted (PyProof.Rows.args_sorted1 _) ?_
  unfold Builtin.«sorted»
  refine wpAny_bind (m := checkCount "sorted" 1 1 _) (wpAny_pure ?_)
  refine wpAny_bind (PySem.W.kdu_collect (A := X.A.in1) (kdl_raw hs hx hdt) (I.ok.hd hcalm) ho (by omega) fun h' tk acc hk hacc => ?_)
  have ea : acc.toList = (ks.map fun x => x.2.1).map Value.ref := by
    rw [List.map_map]
    have hl : acc.toList.length = ks.length := by rw [Array.length_toList, hacc.1]; exact l1
    apply List.ext_getElem?
    intro j
    rw [List.getElem?_map]
    cases hj : acc.toList[j]? with
    | none =>
      have h1 := List.getElem?_eq_none_iff.mp hj
      rw [List.getElem?_eq_none (by omega)]
      all_goals rfl
    | some v =>
      obtain ⟨en, hen, hv⟩ := hacc.2 j v (by rw [← Array.getElem?_toList]; exact hj)
      have qe := entry_at he j
      rw [hen] at qe
      cases hb : ks[j]? with
      | none =>
        rw [hb] at qe
        exact nomatch (show some en = none from qe)
      | some b =>
        rw [hb] at qe
        have e2 : en = entryOfKey (tupleKind (mixKind X.prog X.w)) b := Option.some.inj qe
        rw [hv, e2]
        all_goals rfl
  have hal : acc.toList.length ≤ sizeLine := by rw [ea, List.length_map, List.length_map]; omega
  have I1 : Inv X pins σ H { s with heap := h', toks := tk } := I.kept hk
  refine wpAny_bind (wpAny_newList ?_ hal)
  have hoL : (h'.push (seqObj "list" acc.toList.toArray 0)).get? h'.objs.size = some (seqObj "list" acc.toList.toArray 0) := Heap.get?_push_size _ rfl
  show wpAny _ _ _ _ _ { s with heap := h'.push (seqObj "list" acc.toList.toArray 0), toks := tk }
  have pairs : ∀ v ∈ acc.toList, ∃ x y, Srt.IsPair (h'.push (seqObj "list" acc.toList.toArray 0)) v x y := fun v hv => by
    rw [ea] at hv
    obtain ⟨b, hb, rfl⟩ := List.mem_map.mp hv
    obtain ⟨x, hx1, rfl⟩ := List.mem_map.mp hb
    have all : ∀ {l : List (List Key × V)} {m : List (List Key × Addr × Value)}, KT H l m → ∀ x : List Key × Addr × Value, x ∈ m → ∃ kv : List Key × V, kv ∈ l ∧ H x.2.1 = some (.tup (kv.1.map kV)) := by
      intro l m q
      induction q with
      | nil => intro x h; simp at h
      | cons h t ih =>
        intro x hx
        rcases List.mem_cons.mp hx with rfl | hx
        · exact ⟨_, List.mem_cons_self, h.2.1⟩
        · obtain ⟨kv, h1, h2⟩ := ih x hx
          exact ⟨kv, List.mem_cons_of_mem _ h1, h2⟩
    obtain ⟨kv, h1, h2⟩ := all pr x hx1
    obtain ⟨i, j, e⟩ := hks kv h1
    rw [e] at h2
    obtain ⟨_, its2, r2, ob, g1, g2, n, g3⟩ := I1.hok _ _ h2
    obtain ⟨u1, u2, rfl, ru1, ru2⟩ := vals2 r2
    obtain ⟨t1, rfl⟩ := ru1
    obtain ⟨t2, rfl⟩ := ru2
    exact ⟨i, j, x.2.1, ob, t1, t2, n, rfl, Heap.get?_push_of_some _ g1, g2, g3⟩
  refine wpAny_bind (wpAny_holding (wpAny_call_entry PyProof.Rows.slot_list_sort ⟨_, hoL, rfl⟩ PyProof.Rows.entry_list_sort
    (Srt.list_sort_any (s := { s with heap := h'.push (seqObj "list" acc.toList.toArray 0), toks := tk }) hoL hal (fun h2 => Srt.pairs_sortable (by omega) pairs fun o e => ?_) fun out hp => ⟨_, rfl, ?_⟩) (PyProof.Rows.args_list_sort _)))
  · rw [hoL] at e
    cases e
    intro c
    exact absurd (Value.type.inj c) (by decide)
  · obtain ⟨e', he'⟩ := PyProof.Rows.sortedHeap_at (vs := acc.toList) (out := out.toArray) hoL
    have hp' : out.Perm ((ks.map fun x => x.2.1).map Value.ref) := by rw [← ea]; exact hp
    obtain ⟨bs, rfl, hbs⟩ := refs_perm hp'
    have hlen : (bs.map V.ref).length ≤ sizeLine := by
      rw [List.length_map, hbs.length_eq, List.length_map]; omega
    refine wpAny_pure ⟨_, rfl, .ref h'.objs.size, upd H h'.objs.size (.lst (bs.map V.ref)), I1.laid (t' := tk) (fun b u e => ?_) (Nat.le_refl _)
      (show ObjOk X.prog X.w _ _ _ (.lst (bs.map V.ref)) from ⟨hlen, _, e', vals_refs bs, he'⟩), rfl, q _ bs _ (isKeys_of pr) hbs (I1.hok.fresh (Nat.le_refl _))⟩
    have hb : b < h'.objs.size := Heap.lt_size e
    rw [PyProof.Rows.sortedHeap_old (Nat.ne_of_lt hb) (by rw [size_push']; exact Nat.lt_succ_of_lt hb)]
    exact Heap.get?_push_of_some _ e
end
end K18
/-! K18 layer C: dicts with nested tuple keys. -/
namespace K18
open PySem PySem.Spec PyProof.Rows L2
mutual
/-- the value v in the abstract heap is the nested key k -/
inductive NKey (H : Hp) : NestedKey → V → Prop
  | num (i : Int) : NKey H (.num i) (.int i)
  | tup {a : Addr} {ks : List NestedKey} {vs : List V} : H a = some (.tup vs) → NKeys H ks vs → NKey H (.tup ks) (.ref a)
inductive NKeys (H : Hp) : List NestedKey → List V → Prop
  | nil : NKeys H [] []
  | cons {k : NestedKey} {v : V} {ks : List NestedKey} {vs : List V} : NKey H k v → NKeys H ks vs → NKeys H (k :: ks) (v :: vs)
end
mutual
theorem NKey.mono {H H' : Hp} (ht : ∀ b xs, H b = some (.tup xs) → H' b = some (.tup xs)) : ∀ (k : NestedKey) (v : V), NKey H k v → NKey H' k v
  | .num i, _, h => by cases h; exact .num i
  | .tup ks, _, h => by cases h with | tup h1 h2 => exact .tup (ht _ _ h1) (NKeys.mono ht ks _ h2)
  | .none, _, h => by cases h
  | .text _, _, h => by cases h
theorem NKeys.mono {H H' : Hp} (ht : ∀ b xs, H b = some (.tup xs) → H' b = some (.tup xs)) : ∀ (ks : List NestedKey) (vs : List V), NKeys H ks vs → NKeys H' ks vs
  | [], _, h => by cases h; exact .nil
  | k :: ks, _, h => by cases h with | cons h1 h2 => exact .cons (NKey.mono ht k _ h1) (NKeys.mono ht ks _ h2)
end
section
variable {P : Program} {w : World} {H : Hp} {h : Heap}
mutual
theorem NKey.is (ok : HOk P w H h) : ∀ (k : NestedKey) (v : V) (u : Value), NKey H k v → RelV v u → NestedIs h k u
  | .num i, _, u, x, r => by
    cases x
    obtain ⟨t, rfl⟩ := r
    exact .int i t
  | .tup ks, _, u, x, r => by
    cases x with
    | tup h1 h2 =>
      cases r
      obtain ⟨_, its, rv, o, g1, g2, n, g3⟩ := ok _ _ h1
      exact .tup g1 g2 g3 (by simpa using NKeys.is ok ks _ _ h2 rv)
  | .none, _, _, x, _ => by cases x
  | .text _, _, _, x, _ => by cases x
theorem NKeys.is (ok : HOk P w H h) : ∀ (ks : List NestedKey) (vs : List V) (us : List Value), NKeys H ks vs → Vals vs us → NestedAll h ks us
  | [], _, _, x, r => by cases x; cases r; exact .nil
  | k :: ks, _, _, x, r => by
    cases x with
    | cons h1 h2 =>
      cases r with
      | cons r1 r2 => exact .cons (NKey.is ok k _ _ h1 r1) (NKeys.is ok ks _ _ h2 r2)
end
end
/-- the entries of a dict with nested keys: key, the key's address, value -/
abbrev NEs := List (NestedKey × Addr × V)
abbrev NRel : NEs → List (NestedKey × Addr × Value) → Prop := Paired fun p q => p.1 = q.1 ∧ p.2.1 = q.2.1 ∧ RelV p.2.2 q.2.2
def NPhi (P : Program) (w : World) (a : Addr) (kvs : NEs) (h : Heap) : Prop := kvs.length ≤ sizeLine ∧ (a == sysModules) = false ∧
  ∃ xs : List (NestedKey × Addr × Value), NRel kvs xs ∧ ∃ o es ep, h.get? a = some o ∧ o.ExactDict ∧ o.data = .dict es ep ∧ es.toList = xs.map (entryOfKey (nestedKind P w)) ∧ (xs.map (·.1)).Nodup
abbrev NDict (P : Program) (w : World) (a : Addr) (kvs : NEs) : HO := .ext (NPhi P w a kvs)
theorem nphi_ok {P : Program} {w : World} {H : Hp} {h : Heap} {a : Addr} {kvs : NEs} (x : NPhi P w a kvs h) : ObjOk P w H h a (NDict P w a kvs) := by
  refine ⟨x, ?_, ?_⟩
  · obtain ⟨_, _, _, _, o, _, _, e, _⟩ := x
    exact ⟨o, e⟩
  · rintro h1 h2 ⟨g1, g2, xs, r, o, es, ep, e, rest⟩ k
    exact ⟨g1, g2, xs, r, o, es, ep, k _ e, rest⟩
/-- all keys stand -/
def NStand (H : Hp) (kvs : NEs) : Prop := ∀ e ∈ kvs, NKey H e.1 (.ref e.2.1) ∧ e.1.depth ≤ 8
def valN (kvs : NEs) (k : NestedKey) : Option V := (kvs.find? fun e => decide (e.1 = k)).map (·.2.2)
theorem NRel.val {kvs : NEs} {xs : List (NestedKey × Addr × Value)} (r : NRel kvs xs) (k : NestedKey) : RelO (valN kvs k) ((atKey xs k).map (·.2)) := by
  induction r with
  | nil => exact True.intro
  | @cons p q ps qs h t ih =>
    obtain ⟨h1, _, h2⟩ := h
    by_cases e : p.1 = k
    · have e' : q.1 = k := h1.symm.trans e
      have b : atKey (q :: qs) k = some q.2 := by simp [atKey, List.find?_cons, e']
      have b2 : valN (p :: ps) k = some p.2.2 := by simp [valN, List.find?_cons, e]
      rw [b, b2]; exact h2
    · have e' : ¬ q.1 = k := fun z => e (h1.trans z)
      have b : atKey (q :: qs) k = atKey qs k := by simp [atKey, List.find?_cons, e']
      have b2 : valN (p :: ps) k = valN ps k := by simp [valN, List.find?_cons, e]
      rw [b, b2]; exact ih
theorem NRel.stand {P : Program} {w : World} {H : Hp} {h : Heap} (ok : HOk P w H h) {kvs : NEs} {xs : List (NestedKey × Addr × Value)} (r : NRel kvs xs) (st : NStand H kvs) : ∀ x ∈ xs, (nestedKind P w).is h x.1 x.2.1 := by
  induction r with
  | nil => intro x hx; exact nomatch hx
  | @cons p q ps qs hq t ih =>
    intro x hx
    rcases List.mem_cons.mp hx with e | hx
    · subst e
      obtain ⟨h1, h2, _⟩ := hq
      obtain ⟨s1, s2⟩ := st p List.mem_cons_self
      rw [← h1, ← h2]
      exact ⟨NKey.is ok _ _ _ s1 rfl, s2⟩
    · exact ih (fun e he => st e (List.mem_cons_of_mem _ he)) x hx
section
variable {X : Cx} {pins : List (Addr × Obj)} {σ : L2.St} {H : Hp} {s : Shared} {a : Addr} {kvs : NEs}
theorem nd_of (I : Inv X pins σ H s) (e : H a = some (NDict X.prog X.w a kvs)) (st : NStand H kvs) : kvs.length ≤ sizeLine ∧ (a == sysModules) = false ∧ ∃ xs, NRel kvs xs ∧ s.heap.DictOfH (nestedKind X.prog X.w) a xs := by
  obtain ⟨⟨g1, g2, xs, r, o, es, ep, h1, h2, h3, h4, h5⟩, _⟩ := I.hok _ _ e
  exact ⟨g1, g2, xs, r, o, es, ep, h1, h2, h3, h4, r.stand I.hok st, h5⟩
theorem nroom {A : Around} (hu : A.units + 64 < cLine) : (nestedKind X.prog X.w).room A.in1 := by
  show A.units + 1 + 8 < cLine
  omega
/-- {} to be a dict with nested keys -/
def tDNewN (P : Program) (w : World) : TE := fun _ H Q => ∀ p, H p = none → Q (.ref p) (upd H p (NDict P w p []))
theorem pe_dnewN {pos : Pos} : PE X (.Dict [] [] pos) (tDNewN X.prog X.w) := ⟨fun pins s σ H Q I h =>
  wpAny_Dict_empty ⟨.ref s.heap.objs.size, _, I.laid (a := s.heap.objs.size) (o := NDict X.prog X.w s.heap.objs.size []) (t' := s.toks) (fun _ _ q => Heap.get?_push_of_some _ q) (Nat.le_refl _)
    (nphi_ok ⟨Nat.zero_le _, beq_eq_false_iff_ne.mpr (Nat.ne_of_gt I.big), [], .nil, _, #[], 0, Heap.get?_push_size _ rfl, ⟨rfl, rfl, rfl⟩, rfl, rfl, List.nodup_nil⟩), rfl, h _ (I.hok.fresh (Nat.le_refl _))⟩⟩
/-- k not in d -/
def rNotInN (P : Program) (w : World) : R2 := fun x y H Q => ∃ (a b : Addr) (kvs : NEs) (k : NestedKey), x = .ref b ∧ y = .ref a ∧ H a = some (NDict P w a kvs) ∧ NStand H kvs ∧ NKey H k (.ref b) ∧ k.depth ≤ 8 ∧ Q (.bl (!(valN kvs k).isSome)) H
theorem op_notInN (hu : X.A.units + 64 < cLine) : OpR X (compareOp .NotIn) (rNotInN X.prog X.w) := by
  intro pins s σ H x y v u Q I rx ry h
  obtain ⟨a, b, kvs, k, rfl, rfl, e, st, hk, hd8, q⟩ := h
  cases rx; cases ry
  obtain ⟨z, hd, xs, rel, dd⟩ := nd_of I e st
  refine wpAny_notIn_heap (nroom hu) ⟨NKey.is I.hok _ _ _ hk rfl, hd8⟩ hd dd ?_
  have q2 := (rel.val k).isSome_eq
  rw [Option.isSome_map] at q2
  rw [← q2]
  exact ⟨.bl _, H, I.tok _, rfl, q⟩
/-- d[k] -/
def tDGetN (P : Program) (w : World) (td ty : TE) : TE := fun σ H Q => td σ H fun x H1 => ty σ H1 fun y H2 => ∃ (a b : Addr) (kvs : NEs) (k : NestedKey) (v : V), x = .ref a ∧ y = .ref b ∧ H2 a = some (NDict P w a kvs) ∧ NStand H2 kvs ∧ NKey H2 k (.ref b) ∧ k.depth ≤ 8 ∧ valN kvs k = some v ∧ Q v H2
theorem pe_dgetN {o i : Expr} {td ty : TE} {pos : Pos} (hu : X.A.units + 64 < cLine) (ho : PE X o td) (hi : PE X i ty) (hs : NoSl i) : PE X (.Subscript o i pos) (tDGetN X.prog X.w td ty) := by
  refine ⟨fun pins s σ H Q I h => ?_⟩
  refine subD_of PySem.F.slot_dict_getitem.lookup hs (thn (ho.run pins s σ H _ I h) fun u s1 ⟨x, H1, I1, rx, q1⟩ => thn (hi.run pins s1 σ H1 _ I1 q1) fun iv s2 ⟨y, H2, I2, ry, a, b, kvs, k, v, ex, ey, e, st, hk, hd8, hv, q⟩ => ?_)
  subst ex ey
  cases rx; cases ry
  obtain ⟨z, hd, xs, rel, dd⟩ := nd_of I2 e st
  obtain ⟨w', hw, rw'⟩ := RelO.some_of (v := v) (o := (atKey xs k).map (·.2)) (by rw [← hv]; exact rel.val k)
  obtain ⟨p, hp, hp2⟩ := Option.map_eq_some_iff.mp hw
  refine ⟨dd.typeIs, wpAny_getItem_heap (nroom hu) ⟨NKey.is I2.hok _ _ _ hk rfl, hd8⟩ dd hp ?_⟩
  rw [hp2]
  exact ⟨v, H2, I2.tok _, rw', q⟩
/-- d[k] = v, k not in d -/
def rSetN (P : Program) (w : World) : TSet := fun o i v H Q => ∃ (a b : Addr) (kvs : NEs) (k : NestedKey), o = .ref a ∧ i = .ref b ∧ H a = some (NDict P w a kvs) ∧ NStand H kvs ∧ NKey H k (.ref b) ∧ k.depth ≤ 8 ∧ valN kvs k = none ∧ kvs.length < sizeLine ∧ Q (upd H a (NDict P w a (kvs ++ [(k, b, v)])))
theorem set_nest (hu : X.A.units + 64 < cLine) : PSet X (rSetN X.prog X.w) := by
  intro pins s σ H o i v ov iv u Q I ro ri rv h
  obtain ⟨a, b, kvs, k, rfl, rfl, e, st, hk, hd8, hv, hl, q⟩ := h
  cases (show ov = Value.ref a from ro)
  cases (show iv = Value.ref b from ri)
  obtain ⟨z, hd, xs, rel, dd⟩ := nd_of I e st
  have hz : xs.length ≤ sizeLine := by rw [← Paired.length rel]; exact z
  have hn : atKey xs k = none := by
    have := RelO.none_of (o := (atKey xs k).map (·.2)) (by rw [← hv]; exact rel.val k)
    simpa using this
  refine wpAny_setItem_heap (hsz := hz) (nroom hu) ⟨NKey.is I.hok _ _ _ hk rfl, hd8⟩ dd fun h' dd' hs => ⟨_, ?_, q⟩
  rw [storedH_new hn] at dd'
  obtain ⟨oo, es, ep, hq, h2, h3, h4, _, h5⟩ := dd'
  refine d_write I (by rw [e]; exact True.intro) hs ⟨oo, hq⟩ (nphi_ok ⟨by rw [List.length_append]; exact hl, hd, _, Paired.snoc rel ⟨rfl, rfl, rv⟩, oo, es, ep, hq, h2, h3, h4, h5⟩)
/-- len(d) -/
def rLenN (P : Program) (w : World) : List V → Hp → VK → Prop := fun xs H Q => ∃ (a : Addr) (kvs : NEs), xs = [.ref a] ∧ H a = some (NDict P w a kvs) ∧ NStand H kvs ∧ Q (.int ((kvs.length : Nat) : Int)) H
theorem call_len_nest : CallR X (.builtin "len") (rLenN X.prog X.w) := by
  intro pins s σ H xs us Q I r h
  obtain ⟨p, kvs, rfl, hp, st, q⟩ := h
  obtain ⟨u, rfl, rx⟩ := vals1 r
  obtain rfl : u = .ref p := rx
  obtain ⟨z, hd, ys, rel, dd⟩ := nd_of I hp st
  have hl : kvs.length = ys.length := Paired.length rel
  refine call_len_dictH hd dd (by rw [← hl]; rw [sizeLine_eq] at z; omega) ?_
  rw [← hl]
  exact ⟨.int ((kvs.length : Nat) : Int), H, I.tok _, ⟨_, rfl⟩, q⟩
end
end K18
/-! K18 layer D: the text by places, the built-ins, what a def of the top is. -/
namespace K18
open PySem PySem.Spec PyProof.Rows L2
def topS (i : Nat) : Stmt := PySem.Challenge.pw_stonewalker_k18_whole_alike_and_apart.main.body.getD i (.Pass ⟨0, 0, 0, 0⟩)
abbrev s_numbered_looks : Stmt := topS 1
abbrev s_finer_looks : Stmt := topS 2
abbrev s_alike_by : Stmt := topS 3
abbrev s_kinds_by : Stmt := topS 4
abbrev s_kinds : Stmt := topS 5
abbrev s_seen : Stmt := topS 7
abbrev s_sight_behind : Stmt := topS 9
abbrev s_least_parting : Stmt := topS 10
abbrev s_parting : Stmt := topS 11
abbrev s_parting_with_stone : Stmt := topS 12
abbrev s_is_door_number : Stmt := topS 13
abbrev s_is_way : Stmt := topS 14
abbrev s_shows_parting : Stmt := topS 15
abbrev s_pairs_behind : Stmt := topS 17
abbrev s_pairing : Stmt := topS 18
abbrev s_is_room_of : Stmt := topS 19
abbrev s_is_pair_of : Stmt := topS 20
abbrev s_goes_along : Stmt := topS 21
abbrev s_shows_pairing : Stmt := topS 22
abbrev s_law_box : Stmt := topS 24
abbrev s_law_take : Stmt := topS 25
abbrev s_law_folded : Stmt := topS 26
abbrev s_law_joined : Stmt := topS 27
abbrev s_law_doors_put : Stmt := topS 28
abbrev s_law_web : Stmt := topS 29
abbrev s_law_ring : Stmt := topS 30
abbrev s_law_ends : Stmt := topS 31
abbrev s_law_reached : Stmt := topS 32
abbrev s_law_sheeted : Stmt := topS 33
abbrev s_law_turn : Stmt := topS 34
abbrev s_law_covered : Stmt := topS 35
abbrev s_law_any_web : Stmt := topS 36
abbrev s_law_renamed : Stmt := topS 37
abbrev s_law_way : Stmt := topS 38
abbrev s_law_line : Stmt := topS 39
abbrev s_law_any_way : Stmt := topS 40
abbrev s_law_two_right : Stmt := topS 41
abbrev s_law_seen_alike : Stmt := topS 42
abbrev s_law_third : Stmt := topS 43
abbrev s_law_goes_with : Stmt := topS 44
abbrev s_law : Stmt := topS 45
/-- the built-ins that no name of the top hides -/
structure Bt (mg : Str → Option Value) : Prop where
  len_ : mg "len" = none
  range_ : mg "range" = none
  tuple_ : mg "tuple" = none
  list_ : mg "list" = none
  dict_ : mg "dict" = none
  zip_ : mg "zip" = none
  enumerate_ : mg "enumerate" = none
  sorted_ : mg "sorted" = none
  isinstance_ : mg "isinstance" = none
  int_ : mg "int" = none
  bool_ : mg "bool" = none
  abs_ : mg "abs" = none
  divmod_ : mg "divmod" = none
  max_ : mg "max" = none
  min_ : mg "min" = none
  any_ : mg "any" = none
  all_ : mg "all" = none
/-- a def as it stands behind the top -/
structure Top (K : PySem.W.Frag) (mg : Str → Option Value) (x : Str) (st : Stmt) : Prop where
  ex : ∃ f fd, Fun K x x st f fd ∧ mg x = some (.ref f)
/-- a def that keeps a promise, ready to be called -/
structure Has (P : Program) (w : World) (K : PySem.W.Frag) (mg : Str → Option Value) (base : Heap) (x : Str) (ps : List Str) (k : Nat) (sp : Sp) : Prop where
  ex : ∃ f fd, FnOk P w K mg base CX0 k f fd ps sp ∧ mg x = some (.ref f) ∧ PySem.W.keepIn K (.ref f) = true ∧ Binds K fd ps []
theorem u65 {k : Nat} {A : Around} (r : Room k A) : A.units + 65 < cLine := by have := r.un; omega
section
variable {X : Cx} (K : PySem.W.Frag) (P : Program) (w : World)
theorem k_ixl (h : X.K = K) : IxR X (rIxL K) := h ▸ ix_list
theorem k_ixt (h : X.K = K) : IxR X (rIxT K) := h ▸ ix_tup
def rLenQ (K : PySem.W.Frag) : List V → Hp → VK → Prop := fun xs H Q => ∃ p ys, xs = [.ref p] ∧ (SqL K H p ys ∨ SqT K H p ys) ∧ Q (.int ys.length) H
theorem k_len (h : X.K = K) : CallR X (.builtin "len") (rLenQ K) := h ▸ call_len_seq
def rTupQ (K : PySem.W.Frag) : List V → Hp → VK → Prop := fun xs H Q => ∃ p ys, xs = [.ref p] ∧ ((SqL K H p ys ∧ ∀ l, H l = none → Q (.ref l) (upd H l (.tup ys))) ∨ (SqT K H p ys ∧ Q (.ref p) H))
theorem k_tuple (h : X.K = K) : CallR X (.type "tuple") (rTupQ K) := h ▸ call_tuple_of
def rLstQ (K : PySem.W.Frag) : List V → Hp → VK → Prop := fun xs H Q => ∃ p ys, xs = [.ref p] ∧ (SqL K H p ys ∨ SqT K H p ys) ∧ ∀ l, H l = none → Q (.ref l) (upd H l (.lst ys))
theorem k_list (h : X.K = K) : CallR X (.type "list") (rLstQ K) := h ▸ call_list_of
theorem k_in (h : X.K = K) : OpR X (compareOp .In) (rIn K false) := h ▸ op_in_seq
theorem k_notin (h : X.K = K) : OpR X (compareOp .NotIn) (rIn K true) := h ▸ op_notIn_seq
theorem k_eqD (h : X.K = K) (hu : X.A.units + 64 < cLine) : OpR X (compareOp .Eq) (rEqD K) := h ▸ op_eqD hu
theorem k_neD (h : X.K = K) (hu : X.A.units + 64 < cLine) : OpR X (compareOp .NotEq) (rNeD K) := h ▸ op_neD hu
theorem k_inD (h : X.K = K) (hu : X.A.units + 65 < cLine) : OpR X (compareOp .In) (rInD K) := h ▸ op_inD hu
theorem k_leT (h : X.K = K) (hu : X.A.units < cLine) : OpR X (compareOp .LtE) (rLeT K) := h ▸ op_leT hu
theorem k_catA (h : X.K = K) : OpR X (binaryOp .Add) (rCatA K) := h ▸ op_catA
theorem k_sll (h : X.K = K) : SlR X (rSlL K) := h ▸ sl_list
theorem k_slt (h : X.K = K) : SlR X (rSlA K) := h ▸ sl_tupA
theorem k_max (h : X.K = K) (hc : X.calm = true) : CallR X (.builtin "max") (rMax K) := h ▸ cr_max hc
theorem k_any (h : X.K = K) (hc : X.calm = true) : CallR X (.builtin "any") (rAny K) := h ▸ cr_any hc
theorem k_all (h : X.K = K) (hc : X.calm = true) : CallR X (.builtin "all") (rAll K) := h ▸ cr_all hc
theorem k_sorted (h : X.K = K) : CallR X (.builtin "sorted") (rSorted K) := h ▸ cr_sorted
theorem k_isi (h : X.K = K) : CallR X (.builtin "isinstance") (rIsi K) := h ▸ call_isi
theorem k_isiT (h : X.K = K) : CallR X (.builtin "isinstance") (rIsiT K) := h ▸ call_isiT
theorem k_lcount (h : X.K = K) : MtR X "list.count" (rCntI K) := h ▸ mt_lcount
theorem k_dictT (h : X.K = K) (hc : X.calm = true) (hu : X.A.units + 64 < cLine) : CallR X (.type "dict") (rDictT K) := h ▸ call_dictT hc hu
theorem k_dgetN {o i : Expr} {td ty : TE} {pos : Pos} (hp : X.prog = P) (hw : X.w = w) (hu : X.A.units + 64 < cLine) (ho : PE X o td) (hi : PE X i ty) (hs : NoSl i) : PE X (.Subscript o i pos) (tDGetN P w td ty) := by
  subst hp hw; exact pe_dgetN hu ho hi hs
theorem k_dnewN {pos : Pos} (hp : X.prog = P) (hw : X.w = w) : PE X (.Dict [] [] pos) (tDNewN P w) := by subst hp hw; exact pe_dnewN
theorem k_notInN (hp : X.prog = P) (hw : X.w = w) (hu : X.A.units + 64 < cLine) : OpR X (compareOp .NotIn) (rNotInN P w) := by subst hp hw; exact op_notInN hu
theorem k_setN (hp : X.prog = P) (hw : X.w = w) (hu : X.A.units + 64 < cLine) : PSet X (rSetN P w) := by subst hp hw; exact set_nest hu
theorem k_lenN (hp : X.prog = P) (hw : X.w = w) : CallR X (.builtin "len") (rLenN P w) := by subst hp hw; exact call_len_nest
theorem k_bm {o e : Expr} {es : List Expr} {name : Str} {T id : String} {apos cpos : Pos} {to : TE} {t : TA} {r : V → List V → Hp → VK → Prop} (h : X.K = K) (pa : PlainAttrs T) (slot : Slot T name id) (hty : typeOf (.builtin id) = pure (.type "method_descriptor")) (hm : MtR X id r) (ho : PE X o to) (ha : PA X (e :: es) t)
    (hbase : attributeBase o name X.env (eval o X.env) = eval o X.env := by rfl)
    (hfew : ((backTo cpos (starEach (e :: es) X.env)).all (fun x => !x.1) && (backToKw cpos (keywordEach [] X.env)).all (fun x => x.1.isSome)
      && decide ((e :: es).length + ([] : List Keyword).length + (if ([] : List Keyword).isEmpty then 0 else 1) < 30)) = true := by rfl)
    (hline : (apos.endLine == cpos.line) = true := by rfl) (hs : starEach (e :: es) X.env = (false, eval e X.env) :: starEach es X.env := by rfl) (hplain : (backTo cpos (starEach es X.env)).any (·.1) = false := by rfl) :
    PE X (.Call (.Attribute o name apos) (e :: es) [] cpos) (tBM K T r to t) := h ▸ pe_bm pa slot hty hm ho ha hbase hfew hline hs hplain
end
end K18
/-! K18 layer E: webs, ways and what is seen, in the abstract heap. -/
namespace K18
open PySem PySem.Spec PyProof.Rows L2
abbrev iv (n : Nat) : V := .int (n : Int)
/-! ### heaps -/
/-- tuples stay -/
def Tm (H H' : Hp) : Prop := ∀ b xs, H b = some (.tup xs) → H' b = some (.tup xs)
theorem Tm.refl (H : Hp) : Tm H H := fun _ _ h => h
theorem Tm.trans {H H1 H2 : Hp} (a : Tm H H1) (b : Tm H1 H2) : Tm H H2 := fun c xs h => b c xs (a c xs h)
theorem Tm.new {H : Hp} {p : Addr} {o : HO} (h : H p = none) : Tm H (upd H p o) := fun b xs e => by rw [upd_ne (ne_of_none e h)]; exact e
theorem Tm.lst {H : Hp} {p : Addr} {o : HO} {ys : List V} (h : H p = some (.lst ys)) : Tm H (upd H p o) := fun b xs e => by rw [upd_ne (ne_of e h (fun z => nomatch z))]; exact e
theorem Tm.dT {H : Hp} {p : Addr} {o : HO} {ys : List (List Key × V)} (h : H p = some (.dT ys)) : Tm H (upd H p o) := fun b xs e => by rw [upd_ne (ne_of e h (fun z => nomatch z))]; exact e
theorem Tm.of {H H' : Hp} (s : Same H H') : Tm H H' := fun b xs h => s b _ h
theorem same_new {H : Hp} {p : Addr} {o : HO} (h : H p = none) : Same H (upd H p o) := fun b x e => by rw [upd_ne (ne_of_none e h)]; exact e
theorem same_mut {H H' : Hp} {p : Addr} {o : HO} (s : Same H H') (h : H p = none) : Same H (upd H' p o) := fun b x e => by rw [upd_ne (ne_of_none e h)]; exact s b x e
theorem same_upd {H H' : Hp} {p : Addr} {o : HO} (s : Same H H') (h : H' p = none) : Same H (upd H' p o) := same_mut s (s.free h)
/-- all but what S says stays -/
def Ke (S : Addr → Prop) (H H' : Hp) : Prop := ∀ b o, H b = some o → ¬ S b → H' b = some o
theorem upd_none {H : Hp} {p b : Addr} {o : HO} (h : upd H p o b = none) : H b = none ∧ b ≠ p := by
  by_cases e : b = p
  · subst e; rw [upd_same] at h; cases h
  · rw [upd_ne e] at h; exact ⟨h, e⟩
/-! ### lists by place -/
theorem rg_get {α : Type} {n i : Nat} {f : Nat → α} (h : i < n) : ((List.range n).map f)[i]? = some (f i) := by
  rw [List.getElem?_map, List.getElem?_range h]; rfl
theorem map_get {α β : Type} {l : List α} {f : α → β} {i : Nat} {y : β} (h : (l.map f)[i]? = some y) : ∃ x, l[i]? = some x ∧ y = f x := by
  rw [List.getElem?_map] at h
  cases e : l[i]? with
  | none => rw [e] at h; cases h
  | some x => rw [e] at h; exact ⟨x, rfl, (Option.some.inj h).symm⟩
theorem get_map {α β : Type} {l : List α} {f : α → β} {i : Nat} {x : α} (h : l[i]? = some x) : (l.map f)[i]? = some (f x) := by
  rw [List.getElem?_map, h]; rfl
theorem len_lt {α : Type} {l : List α} {i : Nat} {x : α} (h : l[i]? = some x) : i < l.length := (List.getElem?_eq_some_iff.mp h).1
theorem drop_at {α : Type} {l : List α} {i : Nat} {x : α} (h : l[i]? = some x) : l.drop i = x :: l.drop (i + 1) := by
  obtain ⟨h1, h2⟩ := List.getElem?_eq_some_iff.mp h
  rw [List.drop_eq_getElem_cons h1, h2]
theorem paired_get {α β : Type} {R : α → β → Prop} : ∀ {l : List α} {m : List β} {i : Nat} {y : β}, Paired R l m → m[i]? = some y → ∃ x, l[i]? = some x ∧ R x y
  | _, _, _, _, .nil, h => by simp at h
  | _, _, 0, _, .cons r _, h => by simp at h; subst h; exact ⟨_, rfl, r⟩
  | _, _, i + 1, _, .cons _ t, h => by simp only [List.getElem?_cons_succ] at h ⊢; exact paired_get t h
theorem paired_get' {α β : Type} {R : α → β → Prop} : ∀ {l : List α} {m : List β} {i : Nat} {x : α}, Paired R l m → l[i]? = some x → ∃ y, m[i]? = some y ∧ R x y
  | _, _, _, _, .nil, h => by simp at h
  | _, _, 0, _, .cons r _, h => by simp at h; subst h; exact ⟨_, rfl, r⟩
  | _, _, i + 1, _, .cons _ t, h => by simp only [List.getElem?_cons_succ] at h ⊢; exact paired_get' t h
theorem paired_snoc {α β : Type} {R : α → β → Prop} {x : α} {y : β} (r : R x y) : ∀ {l : List α} {m : List β}, Paired R l m → Paired R (l ++ [x]) (m ++ [y])
  | _, _, .nil => .cons r .nil
  | _, _, .cons q t => .cons q (paired_snoc r t)
theorem paired_len {α β : Type} {R : α → β → Prop} {l : List α} {m : List β} (h : Paired R l m) : l.length = m.length := Paired.length h
theorem paired_of {α β : Type} {R : α → β → Prop} : ∀ {l : List α} {m : List β}, l.length = m.length → (∀ (i : Nat) (x : α) (y : β), l[i]? = some x → m[i]? = some y → R x y) → Paired R l m
  | [], [], _, _ => .nil
  | [], _ :: _, h, _ => by simp at h
  | _ :: _, [], h, _ => by simp at h
  | x :: l, y :: m, h, f => .cons (f 0 x y rfl rfl) (paired_of (by simpa using h) fun i a b ha hb => f (i + 1) a b (by simpa using ha) (by simpa using hb))
/-! ### webs -/
def roomsV (W : Web) (rm : Nat → Addr) : List V := (List.range W.length).map fun r => .ref (rm r)
def endsV (W : Web) (en : Nat → Nat → Addr) (r : Nat) : List V := (List.range (deg W r)).map fun d => .ref (en r d)
theorem roomsV_len (W : Web) (rm : Nat → Addr) : (roomsV W rm).length = W.length := by unfold roomsV; simp
theorem endsV_len (W : Web) (en : Nat → Nat → Addr) (r : Nat) : (endsV W en r).length = deg W r := by unfold endsV; simp
theorem roomsV_get {W : Web} {rm : Nat → Addr} {r : Nat} (h : r < W.length) : (roomsV W rm)[r]? = some (.ref (rm r)) := rg_get h
theorem endsV_get {W : Web} {en : Nat → Nat → Addr} {r d : Nat} (h : d < deg W r) : (endsV W en r)[d]? = some (.ref (en r d)) := rg_get h
theorem roomsV_at {W : Web} {rm : Nat → Addr} {r : Nat} (h : r < W.length) : atI (roomsV W rm) (r : Int) = some (.ref (rm r)) := atI_nat (roomsV_get h)
theorem endsV_at {W : Web} {en : Nat → Nat → Addr} {r d : Nat} (h : d < deg W r) : atI (endsV W en r) (d : Int) = some (.ref (en r d)) := atI_nat (endsV_get h)
structure WebH (H : Hp) (p : Addr) (W : Web) (rm : Nat → Addr) (en : Nat → Nat → Addr) : Prop where
  web : H p = some (.tup (roomsV W rm))
  room : ∀ r, r < W.length → H (rm r) = some (.tup (endsV W en r))
  ends : ∀ r d, d < deg W r → H (en r d) = some (.tup [iv (nxt W r d).1, iv (nxt W r d).2])
theorem WebH.tm {H H' : Hp} {p : Addr} {W : Web} {rm : Nat → Addr} {en : Nat → Nat → Addr} (h : WebH H p W rm en) (t : Tm H H') : WebH H' p W rm en :=
  ⟨t _ _ h.web, fun r hr => t _ _ (h.room r hr), fun r d hd => t _ _ (h.ends r d hd)⟩
/-- a web as a value -/
def WebV (H : Hp) (v : V) (W : Web) : Prop := ∃ p rm en, v = .ref p ∧ WebH H p W rm en
theorem WebV.tm {H H' : Hp} {v : V} {W : Web} (h : WebV H v W) (t : Tm H H') : WebV H' v W := let ⟨p, rm, en, e, x⟩ := h; ⟨p, rm, en, e, x.tm t⟩
/-- small enough -/
structure Small (W : Web) : Prop where
  rooms : W.length ≤ 1000
  doors : ∀ r, deg W r ≤ 1000
theorem sz1000 {n : Nat} (h : n ≤ 100000) : n ≤ sizeLine := Nat.le_trans h (by decide)
theorem sl1000 {n : Nat} (h : n < 100000) : n < sizeLine := Nat.lt_of_lt_of_le h (by decide)
/-! ### pairs -/
def PtV (H : Hp) (v : V) (e : Pt) : Prop := ∃ p, v = .ref p ∧ H p = some (.tup [iv e.1, iv e.2])
theorem PtV.tm {H H' : Hp} {v : V} {e : Pt} (h : PtV H v e) (t : Tm H H') : PtV H' v e := let ⟨p, a, b⟩ := h; ⟨p, a, t _ _ b⟩
theorem pts_tm {H H' : Hp} (t : Tm H H') {vs : List V} {l : List Pt} (h : Paired (PtV H) vs l) : Paired (PtV H') vs l := Paired.mapP h fun _ _ x => x.tm t
/-- a way as a tuple -/
def WayV (H : Hp) (v : V) (way : List Nat) : Prop := ∃ p, v = .ref p ∧ H p = some (.tup (way.map iv))
theorem WayV.tm {H H' : Hp} {v : V} {way : List Nat} (h : WayV H v way) (t : Tm H H') : WayV H' v way := let ⟨p, a, b⟩ := h; ⟨p, a, t _ _ b⟩
/-- a way or none -/
def OWayV (H : Hp) (v : V) : Option (List Nat) → Prop
  | none => v = .non
  | some w => WayV H v w
theorem OWayV.tm {H H' : Hp} {v : V} {o : Option (List Nat)} (h : OWayV H v o) (t : Tm H H') : OWayV H' v o := by
  cases o with
  | none => exact h
  | some w => exact WayV.tm h t
/-- what is seen -/
def SeenV (H : Hp) (v : V) : Option (Nat × List Pt) → Prop
  | none => v = .non
  | some (d, l) => ∃ p vs, v = .ref p ∧ H p = some (.tup (iv d :: vs)) ∧ Paired (PtV H) vs l
theorem SeenV.tm {H H' : Hp} {v : V} {o : Option (Nat × List Pt)} (h : SeenV H v o) (t : Tm H H') : SeenV H' v o := by
  cases o with
  | none => exact h
  | some x =>
    obtain ⟨p, vs, a, b, c⟩ := h
    exact ⟨p, vs, a, t _ _ b, pts_tm t c⟩
/-! ### as data -/
def ptD (e : Pt) : PyData := .tuple [.int e.1, .int e.2]
def seenD : Option (Nat × List Pt) → PyData
  | none => .none
  | some (d, l) => .tuple (.int d :: l.map ptD)
def wayD (w : List Nat) : PyData := .tuple (w.map fun n : Nat => PyData.int (n : Int))
section
variable {K : PySem.W.Frag} {H : Hp}
theorem dp_pt {v : V} {e : Pt} (h : PtV H v e) : Dp K H v (ptD e) := by
  obtain ⟨p, rfl, h⟩ := h
  exact .tup (SqT.of h) (.cons (.int _) (.cons (.int _) .nil))
theorem dp_pts : ∀ {vs : List V} {l : List Pt}, Paired (PtV H) vs l → DpAll K H vs (l.map ptD)
  | _, _, .nil => .nil
  | _, _, .cons h t => .cons (dp_pt h) (dp_pts t)
theorem dp_seen {v : V} {o : Option (Nat × List Pt)} (h : SeenV H v o) : Dp K H v (seenD o) := by
  cases o with
  | none =>
    have h : v = .non := h
    subst h
    exact Dp.non
  | some x =>
    obtain ⟨p, vs, rfl, b, c⟩ := h
    exact .tup (SqT.of b) (.cons (.int _) (dp_pts c))
theorem dp_ints : ∀ w : List Nat, DpAll K H (w.map iv) (w.map fun n : Nat => PyData.int (n : Int))
  | [] => .nil
  | _ :: w => .cons (.int _) (dp_ints w)
theorem dp_way {v : V} {w : List Nat} (h : WayV H v w) : Dp K H v (wayD w) := by
  obtain ⟨p, rfl, h⟩ := h
  exact .tup (SqT.of h) (dp_ints w)
end
theorem ints_lay : ∀ w : List Nat, PyData.canLayAll0 (w.map fun n : Nat => PyData.int (n : Int)) = true
  | [] => rfl
  | _ :: w => by
    rw [List.map_cons, PyData.canLayAll0, ints_lay w]
    rfl
theorem ints_depth : ∀ w : List Nat, PyData.depthAll (w.map fun n : Nat => PyData.int (n : Int)) = 0
  | [] => by simp [PyData.depthAll]
  | _ :: w => by
    rw [List.map_cons, PyData.depthAll, ints_depth w]
    simp [PyData.depth]
theorem way_shaped (w : List Nat) : SeqAt.shaped (wayD w) = true := by
  unfold SeqAt.shaped wayD
  rw [PyData.canLay0, ints_lay]
  simp [PyData.depth, ints_depth]
theorem list_shaped (w : List Nat) : SeqAt.shaped (.list (w.map fun n : Nat => PyData.int (n : Int))) = true := by
  unfold SeqAt.shaped
  rw [PyData.canLay0, ints_lay]
  simp [PyData.depth, ints_depth]
theorem ptD_lay (e : Pt) : (ptD e).canLay0 = true := by simp [ptD, PyData.canLay0, PyData.canLayAll0]
theorem ptD_depth (e : Pt) : (ptD e).depth = 1 := by simp [ptD, PyData.depth, PyData.depthAll]
theorem pts_lay : ∀ l : List Pt, PyData.canLayAll0 (l.map ptD) = true
  | [] => rfl
  | e :: l => by rw [List.map_cons, PyData.canLayAll0, pts_lay l, ptD_lay]; rfl
theorem pts_depth : ∀ l : List Pt, PyData.depthAll (l.map ptD) ≤ 1
  | [] => by simp [PyData.depthAll]
  | e :: l => by
    rw [List.map_cons, PyData.depthAll, ptD_depth]
    have := pts_depth l
    omega
theorem seen_shaped (o : Option (Nat × List Pt)) : SeqAt.shaped (seenD o) = true := by
  cases o with
  | none => rfl
  | some x =>
    obtain ⟨d, l⟩ := x
    unfold SeqAt.shaped seenD
    have h := pts_depth l
    rw [PyData.canLay0, PyData.canLayAll0, pts_lay, PyData.depth, PyData.depthAll]
    simp only [PyData.canLay0, PyData.depth, Bool.and_self, Bool.true_and, decide_eq_true_eq]
    have h2 : max 0 (PyData.depthAll (l.map ptD)) ≤ 1 := Nat.max_le.mpr ⟨Nat.zero_le _, h⟩
    exact decide_eq_true (Nat.le_trans (Nat.succ_le_succ h2) (show 2 ≤ 64 by decide))
theorem pair_shaped (e : Pt) : SeqAt.shaped (ptD e) = true := by
  unfold SeqAt.shaped
  rw [ptD_lay, ptD_depth]; rfl
theorem pairs_shaped (l : List Pt) : SeqAt.shaped (.list (l.map ptD)) = true := by
  unfold SeqAt.shaped
  have h := pts_depth l
  rw [PyData.canLay0, pts_lay, PyData.depth]
  simp only [Bool.true_and, decide_eq_true_eq]
  omega
theorem ints_eqv : ∀ w u : List Nat, PyData.eqvAll (w.map fun n : Nat => PyData.int (n : Int)) (u.map fun n : Nat => PyData.int (n : Int)) = decide (w = u)
  | [], [] => by simp [PyData.eqvAll]
  | [], _ :: _ => by simp [PyData.eqvAll]
  | _ :: _, [] => by simp [PyData.eqvAll]
  | a :: w, b :: u => by
    rw [List.map_cons, List.map_cons, PyData.eqvAll, ints_eqv w u]
    by_cases e : a = b
    · subst e; simp [PyData.eqv]
    · have : ¬ (a : Int) = b := by omega
      simp [PyData.eqv, e, this]
theorem way_eqv (w u : List Nat) : PyData.eqv (wayD w) (wayD u) = decide (w = u) := by
  unfold wayD; rw [PyData.eqv]; exact ints_eqv w u
theorem list_eqv (w u : List Nat) : PyData.eqv (.list (w.map fun n : Nat => PyData.int (n : Int))) (.list (u.map fun n : Nat => PyData.int (n : Int))) = decide (w = u) := by
  rw [PyData.eqv]; exact ints_eqv w u
theorem ptD_eqv (e f : Pt) : PyData.eqv (ptD e) (ptD f) = decide (e = f) := by
  obtain ⟨a, b⟩ := e
  obtain ⟨c, d⟩ := f
  unfold ptD
  simp only [PyData.eqv, PyData.eqvAll, Bool.and_true]
  by_cases h1 : a = c
  · subst h1
    by_cases h2 : b = d
    · subst h2; simp
    · have : ¬ (b : Int) = d := by omega
      simp [h2, this]
  · have : ¬ (a : Int) = c := by omega
    simp [h1, this]
theorem pts_eqv : ∀ l m : List Pt, PyData.eqvAll (l.map ptD) (m.map ptD) = decide (l = m)
  | [], [] => by simp [PyData.eqvAll]
  | [], _ :: _ => by simp [PyData.eqvAll]
  | _ :: _, [] => by simp [PyData.eqvAll]
  | a :: w, b :: u => by
    rw [List.map_cons, List.map_cons, PyData.eqvAll, pts_eqv w u, ptD_eqv]
    by_cases e : a = b
    · subst e; simp
    · simp [e]
theorem seen_eqv (o o' : Option (Nat × List Pt)) : PyData.eqv (seenD o) (seenD o') = decide (o = o') := by
  cases o with
  | none =>
    cases o' with
    | none => rfl
    | some y => simp [seenD, PyData.eqv]
  | some x =>
    cases o' with
    | none => simp [seenD, PyData.eqv]
    | some y =>
      obtain ⟨d, l⟩ := x
      obtain ⟨e, m⟩ := y
      unfold seenD
      rw [PyData.eqv, PyData.eqvAll, pts_eqv]
      by_cases h1 : d = e
      · subst h1; simp [PyData.eqv]
      · have : ¬ (d : Int) = e := by omega
        simp [PyData.eqv, h1, this]
end K18
namespace K18
open PySem PySem.Spec PyProof.Rows L2
section
variable {P : Program} {w : World} {K : PySem.W.Frag} {mg : Str → Option Value} {base : Heap}
/-! ### comprehensions -/
theorem ke_same {H H' : Hp} (h : Ke (fun _ => False) H H') : Same H H' := fun b o e => h b o e id
theorem same_ke {S : Addr → Prop} {H H' : Hp} (h : Same H H') : Ke S H H' := fun b o e _ => h b o e
theorem Ke.refl {S : Addr → Prop} (H : Hp) : Ke S H H := fun _ _ h _ => h
theorem Ke.trans {S : Addr → Prop} {H H1 H2 : Hp} (a : Ke S H H1) (b : Ke S H1 H2) : Ke S H H2 := fun c o h n => b c o (a c o h n) n
theorem Ke.upd {S : Addr → Prop} {H H' : Hp} {p : Addr} {o : HO} (a : Ke S H H') (h : H p = none) : Ke S H (upd H' p o) := fun c u e n => by
  rw [upd_ne (ne_of_none e h)]; exact a c u e n
theorem Ke.new {S : Addr → Prop} {H H' : Hp} {p : Addr} {o : HO} (a : Ke S H H') (h : H' p = none) (hs : ¬ S p) : Ke S H (L2.upd H' p o) := fun c u e n => by
  rw [upd_ne (ne_of_none (a c u e n) h)]; exact a c u e n
/-- a comprehension over a walk, no test: its list, item by item. S: what the element's reading may change, Jn: what it keeps true -/
theorem lcW {J : It} {n : Nat} {G : Hp → Prop} {Y : Nat → Hp → V → Hp → Prop} (wk : Walk J n G Y) (S : Addr → Prop) (Jn : Hp → Prop) (R : Nat → Hp → V → Prop) {g : TG} {te : TE} {vs : List Nat} {σ : L2.St} {H1 : Hp} {D : Addr} {Qd : Hp → Prop}
    (hD : H1 D = none) (hS : ¬ S D) (hn : n ≤ 90000) (hG : ∀ H', Ke S H1 H' → Jn H' → G H') (hJ0 : Jn H1) (hJ : ∀ H' o, Jn H' → Jn (upd H' D o)) (hR : ∀ j z H' H'', (∃ acc, H' D = some (.lst acc)) → R j H' z → (∀ b o, H' b = some o → ¬ S b → b ≠ D → H'' b = some o) → R j H'' z)
    (hY : ∀ i Hi x Hx, Jn Hi → Y i Hi x Hx → Same Hi Hx ∧ Jn Hx)
    (hs : ∀ i x Hi Hx (Qc : VK), i < n → Ke S H1 Hi → Jn Hi → Hi D ≠ none → Y i Hi x Hx → (∀ y Hy, Ke S Hx Hy → Jn Hy → R i Hy y → Qc y Hy) → g x (wipe σ vs) Hx fun σ2 H2 => wipe σ2 vs = wipe σ vs ∧ te σ2 H2 Qc)
    (hd : ∀ H' acc, Ke S H1 H' → Jn H' → H' D = some (.lst acc) → acc.length = n → (∀ (j : Nat) (z : V), acc[j]? = some z → R j H' z) → Qd H') :
    ∃ W : Nat → Nat → Hp → Prop, (∃ m, W 0 m (upd H1 D (.lst []))) ∧ ∀ i m H, W i m H →
      (J.stop i H ∧ Qd H) ∨ (J.go i H ∧ ∃ Nx : Hp → Prop, (∀ H', Nx H' → ∃ m', m' < m ∧ W (i + 1) m' H') ∧ ∀ x H', J.yld i H x H' → g x (wipe σ vs) H' fun σ2 H2 => wipe σ2 vs = wipe σ vs ∧ tYes σ2 H2 fun b H3 =>
        if b = true then te σ2 H3 fun y H4 => ∃ acc, H4 D = some (.lst acc) ∧ acc.length < sizeLine ∧ Nx (upd H4 D (.lst (acc ++ [y]))) else Nx H3) := by
  refine lc_it wk (fun i H' => Ke S H1 H' ∧ Jn H' ∧ ∃ acc, H' D = some (.lst acc) ∧ acc.length = i ∧ ∀ (j : Nat) (z : V), acc[j]? = some z → R j H' z) ⟨(Ke.refl _).upd hD, hJ _ _ hJ0, [], upd_same, rfl, fun j z h => by simp at h⟩ (fun i H' _ p => hG H' p.1 p.2.1) ?_ ?_
  · rintro i x Hi Hx hi ⟨k1, j1, acc, a1, a2, a3⟩ y
    obtain ⟨s1, j2⟩ := hY i Hi x Hx j1 y
    have eqf : ∀ (Qc : VK) (Z : Hp → Prop), (fun (σ2 : L2.St) (H2 : Hp) => wipe σ2 vs = wipe σ vs ∧ tYes σ2 H2 fun b H3 => if b = true then te σ2 H3 Qc else Z H3) = fun σ2 H2 => wipe σ2 vs = wipe σ vs ∧ te σ2 H2 Qc := fun Qc Z => by
      funext σ2 H2
      show (wipe σ2 vs = wipe σ vs ∧ if true = true then te σ2 H2 Qc else Z H2) = _
      rw [if_pos rfl]
    rw [eqf]
    refine hs i x Hi Hx _ hi k1 j1 (by rw [a1]; exact fun z => nomatch z) y fun v Hy k2 j3 r => ?_
    have aD : Hy D = some (.lst acc) := k2 _ _ (s1 _ _ a1) hS
    refine ⟨acc, aD, sl1000 (by omega), ?_, hJ _ _ j3, acc ++ [v], upd_same, by rw [List.length_append, a2]; rfl, fun j z hz => ?_⟩
    · intro b o e n
      have hb : b ≠ D := ne_of_none e hD
      rw [upd_ne hb]
      exact k2 b o (s1 b o (k1 b o e n)) n
    · rcases snoc_get hz with hz | ⟨ej, ez⟩
      · refine hR j z Hi _ ⟨acc, a1⟩ (a3 j z hz) fun b o e n hb => ?_
        rw [upd_ne hb]
        exact k2 b o (s1 b o e) n
      · subst ej; subst ez
        rw [a2]
        refine hR i z Hy _ ⟨acc, aD⟩ r fun b o e n hb => ?_
        rw [upd_ne hb]
        exact e
  · rintro H' ⟨k1, j1, acc, a1, a2, a3⟩
    exact hd H' acc k1 j1 a1 a2 a3
/-- .. that changes nothing that stood -/
theorem lcP {J : It} {n : Nat} {G : Hp → Prop} {Y : Nat → Hp → V → Hp → Prop} (wk : Walk J n G Y) (R : Nat → Hp → V → Prop) {g : TG} {te : TE} {vs : List Nat} {σ : L2.St} {H1 : Hp} {D : Addr} {Qd : Hp → Prop}
    (hD : H1 D = none) (hn : n ≤ 90000) (hG : ∀ H', Same H1 H' → G H') (hR : ∀ j z H' H'', (∃ acc, H' D = some (.lst acc)) → R j H' z → (∀ b o, H' b = some o → b ≠ D → H'' b = some o) → R j H'' z)
    (hY : ∀ i Hi x Hx, Y i Hi x Hx → Same Hi Hx)
    (hs : ∀ i x Hi Hx (Qc : VK), i < n → Same H1 Hi → Hi D ≠ none → Y i Hi x Hx → (∀ y Hy, Same Hx Hy → R i Hy y → Qc y Hy) → g x (wipe σ vs) Hx fun σ2 H2 => wipe σ2 vs = wipe σ vs ∧ te σ2 H2 Qc)
    (hd : ∀ H' acc, Same H1 H' → H' D = some (.lst acc) → acc.length = n → (∀ (j : Nat) (z : V), acc[j]? = some z → R j H' z) → Qd H') :
    ∃ W : Nat → Nat → Hp → Prop, (∃ m, W 0 m (upd H1 D (.lst []))) ∧ ∀ i m H, W i m H →
      (J.stop i H ∧ Qd H) ∨ (J.go i H ∧ ∃ Nx : Hp → Prop, (∀ H', Nx H' → ∃ m', m' < m ∧ W (i + 1) m' H') ∧ ∀ x H', J.yld i H x H' → g x (wipe σ vs) H' fun σ2 H2 => wipe σ2 vs = wipe σ vs ∧ tYes σ2 H2 fun b H3 =>
        if b = true then te σ2 H3 fun y H4 => ∃ acc, H4 D = some (.lst acc) ∧ acc.length < sizeLine ∧ Nx (upd H4 D (.lst (acc ++ [y]))) else Nx H3) :=
  lcW wk (fun _ => False) (fun _ => True) R hD id hn (fun H' k _ => hG H' (ke_same k)) trivial (fun _ _ _ => trivial) (fun j z H' H'' a r k => hR j z H' H'' a r fun b o e n => k b o e id n) (fun i Hi x Hx _ y => ⟨hY i Hi x Hx y, trivial⟩)
    (fun i x Hi Hx Qc hi k _ hn y q => hs i x Hi Hx Qc hi (ke_same k) hn y fun v Hy s r => q v Hy (same_ke s) trivial r) (fun H' acc k _ a b c => hd H' acc (ke_same k) a b c)
/-- what the heap keeps of things told by tuples -/
theorem r_tm {H' H'' : Hp} {D : Addr} (hD : ∃ acc, H' D = some (.lst acc)) (k : ∀ b o, H' b = some o → b ≠ D → H'' b = some o) : Tm H' H'' := fun b xs e => k b _ e (ne_of e hD.choose_spec (fun q => nomatch q))
theorem y_at {xs : List V} {i : Nat} {Hi Hx : Hp} {x : V} (y : YAt xs i Hi x Hx) : Same Hi Hx := by
  obtain ⟨rfl, _⟩ := y; exact Same.refl _
theorem y_fn {f : Nat → V} {i : Nat} {Hi Hx : Hp} {x : V} (y : YFn f i Hi x Hx) : Same Hi Hx := by
  obtain ⟨rfl, _⟩ := y; exact Same.refl _
theorem y_pair {xs ys : Nat → Option V} {i : Nat} {Hi Hx : Hp} {x : V} (y : YPair xs ys i Hi x Hx) : Same Hi Hx := by
  obtain ⟨T, a, b, _, h, rfl, _⟩ := y; exact same_new h
theorem walk_zipT {K : PySem.W.Frag} {a b : Addr} {xs ys : List V} {n : Nat} (hn : n = min xs.length ys.length) : Walk (RZ.ItzT K a b) n (fun H => SqT K H a xs ∧ SqT K H b ys) (YPair (fun i => xs[i]?) (fun i => ys[i]?)) := by
  subst hn
  refine ⟨fun i _ hi q => ?_, fun _ q => ⟨xs, ys, q.1, q.2, by omega⟩, fun i H v H' _ q y => ?_⟩
  · have h1 : i < xs.length := by omega
    have h2 : i < ys.length := by omega
    exact ⟨xs, ys, xs[i], ys[i], q.1, q.2, by simp [h1], by simp [h2]⟩
  · obtain ⟨T, x, z, h1, h2, h3, h4, h5⟩ := y
    exact ⟨T, x, z, h1, h2, h3, h4 xs q.1, h5 ys q.2⟩
theorem walk_enumT {K : PySem.W.Frag} {a : Addr} {xs : List V} : Walk (IteT K a) xs.length (fun H => SqT K H a xs) (YPair (fun i => some (.int (i : Nat))) (fun i => xs[i]?)) := by
  refine ⟨fun i _ hi q => ⟨xs, xs[i], q, by simp [hi]⟩, fun _ q => ⟨xs, q, Nat.le_refl _⟩, fun i H v H' _ q y => ?_⟩
  obtain ⟨T, x, h1, h2, h3, h4⟩ := y
  exact ⟨T, .int (i : Nat), x, h1, h2, h3, rfl, h4 xs q⟩
/-! a list whose items are bools, all true -/
theorem bls_of {acc : List V} {n : Nat} {f : Nat → Bool} (hl : acc.length = n) (h : ∀ (j : Nat) (z : V), acc[j]? = some z → z = .bl (f j)) : acc = ((List.range n).map f).map V.bl := by
  apply List.ext_getElem?
  intro j
  by_cases hj : j < n
  · rw [get_map (rg_get hj)]
    have : acc[j]? = some acc[j] := List.getElem?_eq_getElem (by omega)
    rw [this, h j _ this]
  · rw [List.getElem?_eq_none (by omega), List.getElem?_eq_none (by simp; omega)]
theorem ivs_of {acc : List V} {n : Nat} {f : Nat → Nat} (hl : acc.length = n) (h : ∀ (j : Nat) (z : V), acc[j]? = some z → z = iv (f j)) : acc = ((List.range n).map f).map iv := by
  apply List.ext_getElem?
  intro j
  by_cases hj : j < n
  · rw [get_map (rg_get hj)]
    have : acc[j]? = some acc[j] := List.getElem?_eq_getElem (by omega)
    rw [this, h j _ this]
  · rw [List.getElem?_eq_none (by omega), List.getElem?_eq_none (by simp; omega)]
theorem all_rg {n : Nat} {f : Nat → Bool} : ((List.range n).map f).all id = decide (∀ j, j < n → f j = true) := by
  rw [Bool.eq_iff_iff, List.all_eq_true, decide_eq_true_eq]
  constructor
  · intro h j hj
    exact h _ (List.mem_map.mpr ⟨j, List.mem_range.mpr hj, rfl⟩)
  · intro h x hx
    obtain ⟨j, hj, rfl⟩ := List.mem_map.mp hx
    exact h j (List.mem_range.mp hj)
theorem any_rg {n : Nat} {f : Nat → Bool} : ((List.range n).map f).any id = decide (∃ j, j < n ∧ f j = true) := by
  rw [Bool.eq_iff_iff, List.any_eq_true, decide_eq_true_eq]
  constructor
  · rintro ⟨x, hx, e⟩
    obtain ⟨j, hj, rfl⟩ := List.mem_map.mp hx
    exact ⟨j, List.mem_range.mp hj, e⟩
  · rintro ⟨j, hj, e⟩
    exact ⟨_, List.mem_map.mpr ⟨j, List.mem_range.mpr hj, rfl⟩, e⟩
theorem iteNS' {c : Prop} [Decidable c] {A B : Prop} (hc : ¬ c) (h : A) : if (!decide c) = true then A else B := by
  rw [decide_eq_false hc]
  exact iteT h
theorem iteNT {c : Prop} [Decidable c] {A B : Prop} (hc : c) (h : B) : if (!decide c) = true then A else B := by
  rw [decide_eq_true hc]
  exact iteF h
end
end K18
namespace K18
open PySem PySem.Spec PyProof.Rows L2
section
variable {P : Program} {w : World} {K : PySem.W.Frag} {mg : Str → Option Value} {base : Heap}
abbrev N_seen : List Str := ["web", "room", "way", "told", "door", "came"]
theorem sc_seen : FnScope N_seen ["web", "room", "way"] (defScope s_seen) := ⟨rfl, rfl, rfl, by decide +kernel, rfl, by decide +kernel, by decide +kernel⟩
def spSeen : Sp := fun vs H Q _ => ∃ (p : Addr) (W : Web) (rm : Nat → Addr) (en : Nat → Nat → Addr) (r : Nat) (q : Addr) (way : List Nat), vs = [.ref p, iv r, .ref q] ∧ WebH H p W rm en ∧ Closed W ∧ r < W.length ∧
  H q = some (.tup (way.map iv)) ∧ way.length ≤ 1000 ∧ ∀ v H', Same H H' → SeenV H' v (seenOf W r way) → Q v H'
theorem has_seen (B : Bt mg) (T : Top K mg "seen" s_seen) : Has P w K mg base "seen" ["web", "room", "way"] 1 spSeen := by
  obtain ⟨f, fd, F, hm⟩ := T.ex
  refine ⟨f, fd, ?_, hm, F.kp, F.binds fun _ _ _ _ _ _ us hl => match us, hl with | [_, _, _], _ => rfl⟩
  refine F.ok sc_seen (fun vs H Q E h => ?_) (fun cdv A outer s H vs Q E hr h => ?_)
  · obtain ⟨p, W, rm, en, r, q, way, rfl, _⟩ := h
    rfl
  · obtain ⟨p, W, rm, en, r, q, way, rfl, hW, cW, hr0, hq, hlen, k⟩ := h
    refine ⟨_, (pss_cons (ps_set (i := 3) sc_seen.nd rfl (Or.inl rfl) (pe_lst (pa_cons (pe_callB (k_len K rfl) (by rfl) B.len_ PySem.boot_len (pa_cons (pe_ix (k_ixt K rfl) (pv 0) (pv 1) (fun _ _ => rfl)) pa_nil)) pa_nil)))
      (pss_cons (ps_for PassesOwn.never rfl (pi_tup (pv 2)) (pg_name (i := 4) sc_seen.nd rfl (Or.inl rfl))
      (pss_cons (ps_if (pt_cmpR op_ge (pv 4) (pe_callB (k_len K rfl) (by rfl) B.len_ PySem.boot_len (pa_cons (pe_ix (k_ixt K rfl) (pv 0) (pv 1) (fun _ _ => rfl)) pa_nil)) (nomark _)) (pss_one (ps_ret pe_non)) pss_nil)
      (pss_cons (ps_asg (pe_ix (k_ixt K rfl) (pe_ix (k_ixt K rfl) (pv 0) (pv 1) (fun _ _ => rfl)) (pv 4) (fun _ _ => rfl)) (pg_tup rfl (pgs_cons (pg_name (i := 1) sc_seen.nd rfl (Or.inl rfl)) (pgs_cons (pg_name (i := 5) sc_seen.nd rfl (Or.inl rfl)) pgs_nil))))
      (pss_one (ps_expr (k_bm K rfl PySem.F.plainAttrs_list PySem.F.slot_list_append PySem.F.type_list_append mt_append (pv 3) (pa_cons (pe_tup (pa_cons (pv 5) (pa_cons (pe_callB (k_len K rfl) (by rfl) B.len_ PySem.boot_len (pa_cons (pe_ix (k_ixt K rfl) (pv 0) (pv 1) (fun _ _ => rfl)) pa_nil)) pa_nil))) pa_nil)))))))
      (pss_one (ps_ret (pe_callTy (k_tuple K rfl) (by rfl) B.tuple_ (by decide +kernel) (pa_cons (pv 3) pa_nil)))))), ?_⟩
    refine ⟨_, rfl, _, rfl, p, _, _, _, rfl, rfl, SqT.of hW.web, roomsV_at hr0, rm r, _, rfl, .inr (SqT.of (hW.room r hr0)), sz1000 (by show 1 ≤ 100000; decide), fun tl htl => ?_⟩
    have s1 : Same H (upd H tl (.lst [.int ((endsV W en r).length : Int)])) := same_new htl
    refine ⟨_, rfl, q, rfl, ⟨_, SqT.of (s1 _ _ hq)⟩, for_tup (K := K) (a := q) (xs := way.map iv) (fun i σ H' => ∃ (rc : Nat) (l : List Pt) (ts : List V) (dv cv : Option V), σ = [some (.ref p), some (iv rc), some (.ref q), some (.ref tl), dv, cv] ∧ rc < W.length ∧ Same H H' ∧
        H' tl = some (.lst (iv (deg W r) :: ts)) ∧ Paired (PtV H') ts l ∧ goSeen W r way = (goSeen W rc (way.drop i)).map (l ++ ·) ∧ l.length = i)
      ⟨r, [], [], none, none, rfl, hr0, s1, by rw [upd_same, endsV_len], .nil, by rw [List.drop_zero]; cases goSeen W r way <;> rfl, rfl⟩ (fun i σ H' _ ⟨_, _, _, _, _, _, _, s2, _⟩ => SqT.of (s2 _ _ hq)) ?_ ?_⟩
    · rintro i y σ H' hi ⟨rc, l, ts, dv, cv, rfl, hrc, s2, hL, hP, hg, hli⟩
      obtain ⟨d, hd, rfl⟩ := map_get hi
      have hW2 := hW.tm (Tm.of s2)
      have hdr := drop_at hd
      refine ⟨_, rfl, _, rfl, _, rfl, p, _, _, _, rfl, rfl, SqT.of hW2.web, roomsV_at hrc, rm rc, _, rfl, .inr (SqT.of (hW2.room rc hrc)), _, _, rfl, rfl, _, rfl, ite2 (fun e => ?_) (fun e => ?_)⟩
      · have e := of_decide_eq_true e
        rw [endsV_len] at e
        have hn : ¬ d < deg W rc := by omega
        refine k .non H' s2 ?_
        have : goSeen W r way = none := by
          rw [hg, hdr]; unfold goSeen; rw [if_neg hn]; rfl
        unfold seenOf
        rw [this]
        rfl
      · have e : d < deg W rc := by
          rw [decide_eq_true_eq, endsV_len] at e
          omega
        have hlt := cW.lt rc d e
        refine ⟨_, rfl, _, rfl, p, _, _, _, rfl, rfl, SqT.of hW2.web, roomsV_at hrc, _, rfl, rm rc, _, _, _, rfl, rfl, SqT.of (hW2.room rc hrc), endsV_at e, en rc d, _, rfl, SqT.of (hW2.ends rc d e), rfl, _, _, rfl, _, _, rfl, rfl, ?_⟩
        refine ⟨_, rfl, .inl ⟨rfl, _, SqL.of hL⟩, _, rfl, _, rfl, _, rfl, p, _, _, _, rfl, rfl, SqT.of hW2.web, roomsV_at hlt, _, _, rfl, .inr (SqT.of (hW2.room _ hlt)), sz1000 (by show 2 ≤ 100000; decide), fun t ht => ?_⟩
        have htl' : tl ≠ t := ne_of_none hL ht
        have s3 := same_upd (o := .tup [iv (nxt W rc d).2, .int ((endsV W en (nxt W rc d).1).length : Int)]) s2 ht
        have hts : ts.length = i := by rw [paired_len hP, hli]
        have hil := len_lt hd
        refine ⟨tl, _, _, rfl, rfl, by rw [upd_ne htl']; exact hL, sl1000 (by rw [List.length_cons]; omega), ?_⟩
        have tm1 : Tm H' (upd H' t (.tup [iv (nxt W rc d).2, .int ((endsV W en (nxt W rc d).1).length : Int)])) := Tm.new ht
        have tm2 : Tm H' (upd (upd H' t (.tup [iv (nxt W rc d).2, .int ((endsV W en (nxt W rc d).1).length : Int)])) tl (.lst ((iv (deg W r) :: ts) ++ [.ref t]))) := tm1.trans (Tm.lst (by rw [upd_ne htl']; exact hL))
        refine ⟨(nxt W rc d).1, l ++ [((nxt W rc d).2, deg W (nxt W rc d).1)], ts ++ [.ref t], _, _, rfl, hlt, same_mut s3 htl, upd_same, paired_snoc ⟨t, rfl, ?_⟩ (pts_tm tm2 hP), ?_, ?_⟩
        · rw [hg, hdr]
          show (if d < deg W rc then (goSeen W (nxt W rc d).1 (way.drop (i + 1))).map _ else none).map _ = _
          rw [if_pos e]
          cases goSeen W (nxt W rc d).1 (way.drop (i + 1)) with
          | none => rfl
          | some z => simp
        · rw [List.length_append, hli]; rfl
        · show upd _ tl _ t = _
          rw [upd_ne htl'.symm, upd_same, endsV_len]
    · rintro σ H' ⟨rc, l, ts, dv, cv, rfl, hrc, s2, hL, hP, hg, hli⟩
      refine ⟨_, rfl, tl, _, rfl, .inl ⟨SqL.of hL, fun t ht => ?_⟩⟩
      refine k _ _ (same_upd s2 ht) ?_
      have : goSeen W r way = some l := by
        rw [hg, List.length_map, List.drop_length]
        show some (l ++ []) = some l
        rw [List.append_nil]
      unfold seenOf
      rw [this]
      exact ⟨t, ts, rfl, upd_same, pts_tm (Tm.new ht) hP⟩
end
end K18
namespace K18
open PySem PySem.Spec PyProof.Rows L2
section
variable {P : Program} {w : World} {K : PySem.W.Frag} {mg : Str → Option Value} {base : Heap}
/-! sight_behind, least_parting, parting, parting_with_stone -/
def stV : Option Nat → V
  | none => .non
  | some s => iv s
theorem st_scal (a : Nat) (s : Option Nat) : scal (iv a) (stV s) = true := by cases s <;> rfl
theorem st_dec (a : Nat) (s : Option Nat) : decide (iv a = stV s) = decide (some a = s) := by
  cases s with
  | none => simp [stV]
  | some s =>
    by_cases h : a = s
    · subst h; simp [stV]
    · have : ¬ iv a = stV (some s) := fun e => h (by have := L2.V.int.inj e; omega)
      rw [decide_eq_false this, decide_eq_false (fun e => h (Option.some.inj e))]
def SightV (H : Hp) (v : V) (x : Nat × Nat × Bool) : Prop := ∃ t, v = .ref t ∧ H t = some (.tup [iv x.1, iv x.2.1, .bl x.2.2])
theorem SightV.tm {H H' : Hp} {v : V} {x : Nat × Nat × Bool} (h : SightV H v x) (t : Tm H H') : SightV H' v x := let ⟨p, a, b⟩ := h; ⟨p, a, t _ _ b⟩
def sightD (x : Nat × Nat × Bool) : PyData := .tuple [.int x.1, .int x.2.1, .bool x.2.2]
theorem dp_sight {H : Hp} {v : V} {x : Nat × Nat × Bool} (h : SightV H v x) : Dp K H v (sightD x) := by
  obtain ⟨p, rfl, h⟩ := h
  exact .tup (SqT.of h) (.cons (.int _) (.cons (.int _) (.cons (.bl _) .nil)))
theorem sight_shaped (x : Nat × Nat × Bool) : SeqAt.shaped (sightD x) = true := by
  simp [SeqAt.shaped, sightD, PyData.canLay0, PyData.canLayAll0, PyData.depth, PyData.depthAll]
theorem sight_eqv (x y : Nat × Nat × Bool) : PyData.eqv (sightD x) (sightD y) = decide (x = y) := by
  obtain ⟨a, b, c⟩ := x
  obtain ⟨d, e, f⟩ := y
  unfold sightD
  simp only [PyData.eqv, PyData.eqvAll, Bool.and_true]
  by_cases h1 : a = d
  · subst h1
    by_cases h2 : b = e
    · subst h2; cases c <;> cases f <;> simp
    · have : ¬ (b : Int) = e := by omega
      simp [h2, this]
  · have : ¬ (a : Int) = d := by omega
    simp [h1, this]
/-- t + u, whatever -/
theorem catT {H : Hp} {a b : Addr} {xs ys : List V} {Q : VK} (hx : H a = some (.tup xs)) (hy : H b = some (.tup ys)) (hz : xs.length + ys.length ≤ sizeLine) (k : ∀ p H', Same H H' → H' p = some (.tup (xs ++ ys)) → Q (.ref p) H') : rCatA K (.ref a) (.ref b) H Q := by
  refine ⟨a, b, xs, ys, rfl, rfl, SqT.of hx, SqT.of hy, hz, fun e => ?_, fun _ e => ?_, fun _ _ p hp => k p _ (same_new hp) upd_same⟩
  · subst e; exact k b H (Same.refl H) hy
  · subst e; exact k a H (Same.refl H) (by rw [List.append_nil]; exact hx)
abbrev N_sight_behind : List Str := ["web", "room", "door", "stone", "end"]
theorem sc_sight_behind : FnScope N_sight_behind ["web", "room", "door", "stone"] (defScope s_sight_behind) := ⟨rfl, rfl, rfl, by decide +kernel, rfl, by decide +kernel, by decide +kernel⟩
def spSight : Sp := fun vs H Q _ => ∃ (p : Addr) (W : Web) (rm : Nat → Addr) (en : Nat → Nat → Addr) (r d : Nat) (st : Option Nat), vs = [.ref p, iv r, iv d, stV st] ∧ WebH H p W rm en ∧ Closed W ∧ d < deg W r ∧
  ∀ v H', Same H H' → SightV H' v (sight W st r d) → Q v H'
theorem has_sight (B : Bt mg) (T : Top K mg "sight_behind" s_sight_behind) : Has P w K mg base "sight_behind" ["web", "room", "door", "stone"] 1 spSight := by
  obtain ⟨f, fd, F, hm⟩ := T.ex
  refine ⟨f, fd, ?_, hm, F.kp, F.binds fun _ _ _ _ _ _ us hl => match us, hl with | [_, _, _, _], _ => rfl⟩
  refine F.ok sc_sight_behind (fun vs H Q E h => ?_) (fun cdv A outer s H vs Q E hr h => ?_)
  · obtain ⟨p, W, rm, en, r, d, st, rfl, _⟩ := h
    rfl
  · obtain ⟨p, W, rm, en, r, d, st, rfl, hW, cW, hd, k⟩ := h
    have hr0 := lt_of_deg hd
    have hlt := cW.lt r d hd
    refine ⟨_, (pss_cons (ps_set (i := 4) sc_sight_behind.nd rfl (Or.inl rfl) (pe_ix (k_ixt K rfl) (pe_ix (k_ixt K rfl) (pv 0) (pv 1) (fun _ _ => rfl)) (pv 2) (fun _ _ => rfl)))
      (pss_one (ps_ret (pe_tup (pa_cons (pe_ix (k_ixt K rfl) (pv 4) pe_int (fun _ _ => rfl)) (pa_cons (pe_callB (k_len K rfl) (by rfl) B.len_ PySem.boot_len (pa_cons (pe_ix (k_ixt K rfl) (pv 0) (pe_ix (k_ixt K rfl) (pv 4) pe_int (fun _ _ => rfl)) (fun _ _ => rfl)) pa_nil)) (pa_cons (pe_cmpR op_eq (pe_ix (k_ixt K rfl) (pv 4) pe_int (fun _ _ => rfl)) (pv 3) (nomark _)) pa_nil))))))), ?_⟩
    refine ⟨_, rfl, _, rfl, p, _, _, _, rfl, rfl, SqT.of hW.web, roomsV_at hr0, _, rfl, rm r, _, _, _, rfl, rfl, SqT.of (hW.room r hr0), endsV_at hd, ?_⟩
    refine ⟨_, rfl, en r d, _, _, _, rfl, rfl, SqT.of (hW.ends r d hd), atI_nat (j := 1) rfl, _, rfl, _, rfl, en r d, _, _, _, rfl, rfl, SqT.of (hW.ends r d hd), atI_nat (j := 0) rfl, p, _, _, _, rfl, rfl, SqT.of hW.web, roomsV_at hlt, _, _, rfl, .inr (SqT.of (hW.room _ hlt)),
      _, rfl, en r d, _, _, _, rfl, rfl, SqT.of (hW.ends r d hd), atI_nat (j := 0) rfl, _, rfl, st_scal _ st, sz1000 (by show 3 ≤ 100000; decide), fun t ht => ?_⟩
    refine k _ _ (same_new ht) ⟨t, rfl, ?_⟩
    rw [upd_same, endsV_len, st_dec]
    rfl
/-! the tables of the search -/
abbrev pk (p : Pt) : List Key := [Sum.inl (p.1 : Int), Sum.inl (p.2 : Int)]
theorem pk_inj {p q : Pt} (h : pk p = pk q) : p = q := by
  obtain ⟨a, b⟩ := p
  obtain ⟨c, d⟩ := q
  unfold pk at h
  simp only [List.cons.injEq, Sum.inl.injEq, and_true] at h
  obtain ⟨h1, h2⟩ := h
  have e1 : a = c := by omega
  have e2 : b = d := by omega
  rw [e1, e2]
theorem pk_map (p : Pt) : (pk p).map kV = [iv p.1, iv p.2] := rfl
/-- a dict from pairs to things -/
def DRel {α : Type} (R : V → α → Prop) : List (List Key × V) → List (Pt × α) → Prop := Paired fun kv x => kv.1 = pk x.1 ∧ R kv.2 x.2
theorem drel_none {α : Type} {R : V → α → Prop} {p : Pt} : ∀ {kvs : List (List Key × V)} {Q : List (Pt × α)}, DRel R kvs Q → ¬ p ∈ Q.map (·.1) → valV kvs (pk p) = none
  | _, _, .nil, _ => rfl
  | a :: _, b :: _, .cons h t, hn => by
    have h1 : ¬ a.1 = pk p := fun e => hn (by rw [h.1] at e; rw [List.map_cons, pk_inj e]; exact List.mem_cons_self)
    rw [valV_neg h1]
    exact drel_none t fun m => hn (by rw [List.map_cons]; exact List.mem_cons_of_mem _ m)
theorem drel_some {α : Type} {R : V → α → Prop} {x : Pt × α} : ∀ {kvs : List (List Key × V)} {Q : List (Pt × α)} {i : Nat}, DRel R kvs Q → (Q.map (·.1)).Nodup → Q[i]? = some x → ∃ v, valV kvs (pk x.1) = some v ∧ R v x.2
  | _, _, _, .nil, _, h => by simp at h
  | _, _, 0, .cons h _, _, e => by
    simp at e
    subst e
    exact ⟨_, valV_pos h.1, h.2⟩
  | a :: _, b :: _, i + 1, .cons h t, hn, e => by
    simp only [List.getElem?_cons_succ] at e
    rw [List.map_cons] at hn
    obtain ⟨h1, h2⟩ := List.nodup_cons.mp hn
    obtain ⟨v, g1, g2⟩ := drel_some t h2 e
    refine ⟨v, ?_, g2⟩
    have hne : ¬ a.1 = pk x.1 := fun q => h1 (by
      rw [h.1] at q
      rw [pk_inj q]
      exact List.mem_map.mpr ⟨x, List.mem_of_getElem? e, rfl⟩)
    rw [valV_neg hne]
    exact g1
theorem drel_some' {α : Type} {R : V → α → Prop} {p : Pt} {kvs : List (List Key × V)} {Q : List (Pt × α)} (h : DRel R kvs Q) (hm : p ∈ Q.map (·.1)) : (valV kvs (pk p)).isSome = true := by
  have : ∀ {kvs : List (List Key × V)} {Q : List (Pt × α)}, DRel R kvs Q → p ∈ Q.map (·.1) → (valV kvs (pk p)).isSome = true := by
    intro kvs Q h
    induction h with
    | nil => intro hm; cases hm
    | @cons a b as bs h t ih =>
      intro hm
      by_cases e : a.1 = pk p
      · rw [valV_pos e]; rfl
      · rw [valV_neg e]
        rw [List.map_cons] at hm
        rcases List.mem_cons.mp hm with q | q
        · exact (e (by rw [h.1, q])).elim
        · exact ih q
  exact this h hm
theorem drel_isSome {α : Type} {R : V → α → Prop} {p : Pt} {kvs : List (List Key × V)} {Q : List (Pt × α)} (h : DRel R kvs Q) : (valV kvs (pk p)).isSome = decide (p ∈ Q.map (·.1)) := by
  by_cases hm : p ∈ Q.map (·.1)
  · rw [drel_some' h hm, decide_eq_true hm]
  · rw [drel_none h hm, decide_eq_false hm]; rfl
structure QH (H : Hp) (wd wl : Addr) (Q : Qu) : Prop where
  d : ∃ kvs, H wd = some (.dT kvs) ∧ DRel (WayV H) kvs Q
  w : ∃ ws, H wl = some (.lst ws) ∧ Paired (fun v (x : Pt × List Nat) => PtV H v x.1) ws Q
theorem QH.same {H H' : Hp} {wd wl : Addr} {Q : Qu} (h : QH H wd wl Q) (s : Same H H') : QH H' wd wl Q := by
  obtain ⟨⟨kvs, h1, h2⟩, ws, h3, h4⟩ := h
  exact ⟨⟨kvs, s _ _ h1, Paired.mapP h2 fun _ _ x => ⟨x.1, x.2.tm (Tm.of s)⟩⟩, ws, s _ _ h3, Paired.mapP h4 fun _ _ x => x.tm (Tm.of s)⟩
abbrev N_least_parting : List Str := ["one", "a", "other", "b", "stones", "ways", "waiting", "at", "left", "right", "door", "way", "pair"]
theorem sc_least_parting : FnScope N_least_parting ["one", "a", "other", "b", "stones"] (defScope s_least_parting) := ⟨rfl, rfl, rfl, by decide +kernel, rfl, by decide +kernel, by decide +kernel⟩
def spLeast : Sp := fun vs H Q _ => ∃ (p : Addr) (W : Web) (rm : Nat → Addr) (en : Nat → Nat → Addr) (a : Nat) (p' : Addr) (V : Web) (rm' : Nat → Addr) (en' : Nat → Nat → Addr) (b : Nat) (q : Addr) (s t : Option Nat),
  vs = [.ref p, iv a, .ref p', iv b, .ref q] ∧ WebH H p W rm en ∧ WebH H p' V rm' en' ∧ Closed W ∧ Closed V ∧ Small W ∧ Small V ∧ W.length * V.length ≤ 50000 ∧ a < W.length ∧ b < V.length ∧ H q = some (.tup [stV s, stV t]) ∧
  ∀ v H', Same H H' → OWayV H' v (lp W V s t a b) → Q v H'
theorem has_least (B : Bt mg) (T : Top K mg "least_parting" s_least_parting) (H_sight_behind_ : Has P w K mg base "sight_behind" ["web", "room", "door", "stone"] 1 spSight) :
    Has P w K mg base "least_parting" ["one", "a", "other", "b", "stones"] 2 spLeast := by
  obtain ⟨f_sight_behind_, fd_sight_behind_, G_sight_behind_, m_sight_behind_, kp_sight_behind_, b_sight_behind_⟩ := H_sight_behind_.ex
  obtain ⟨f, fd, F, hm⟩ := T.ex
  refine ⟨f, fd, ?_, hm, F.kp, F.binds fun _ _ _ _ _ _ us hl => match us, hl with | [_, _, _, _, _], _ => rfl⟩
  refine F.ok sc_least_parting (fun vs H Q E h => ?_) (fun cdv A outer s H vs Q E hr h => ?_)
  · obtain ⟨p, W, rm, en, a, p', V, rm', en', b, q, s, t, rfl, _⟩ := h
    rfl
  · obtain ⟨p, W, rm, en, a, p', V, rm', en', b, q, s, t, rfl, hW, hV, cW, cV, smW, smV, hN, ha, hb, hq, k⟩ := h
    refine ⟨_, (pss_cons (ps_if (pt_cmpR op_ne (pe_callB (k_len K rfl) (by rfl) B.len_ PySem.boot_len (pa_cons (pe_ix (k_ixt K rfl) (pv 0) (pv 1) (fun _ _ => rfl)) pa_nil)) (pe_callB (k_len K rfl) (by rfl) B.len_ PySem.boot_len (pa_cons (pe_ix (k_ixt K rfl) (pv 2) (pv 3) (fun _ _ => rfl)) pa_nil)) (nomark _)) (pss_one (ps_ret (pe_tup pa_nil))) pss_nil)
      (pss_cons (ps_set (i := 5) sc_least_parting.nd rfl (Or.inl rfl) (pe_dispT hr.units (pe_tup (pa_cons (pv 1) (pa_cons (pv 3) pa_nil))) (pe_tup pa_nil)))
      (pss_cons (ps_set (i := 6) sc_least_parting.nd rfl (Or.inl rfl) (pe_lst (pa_cons (pe_tup (pa_cons (pv 1) (pa_cons (pv 3) pa_nil))) pa_nil)))
      (pss_cons (ps_set (i := 7) sc_least_parting.nd rfl (Or.inl rfl) pe_int)
      (pss_cons (ps_while PassesOwn.never (pt_cmpR op_lt (pv 7) (pe_callB (k_len K rfl) (by rfl) B.len_ PySem.boot_len (pa_cons (pv 6) pa_nil)) (nomark _))
      (pss_cons (ps_asg (pe_ix (k_ixl K rfl) (pv 6) (pv 7) (fun _ _ => rfl)) (pg_tup rfl (pgs_cons (pg_name (i := 8) sc_least_parting.nd rfl (Or.inl rfl)) (pgs_cons (pg_name (i := 9) sc_least_parting.nd rfl (Or.inl rfl)) pgs_nil))))
      (pss_cons (ps_for PassesOwn.never rfl (pi_range1 (by rfl) B.range_ (pa_cons (pe_callB (k_len K rfl) (by rfl) B.len_ PySem.boot_len (pa_cons (pe_ix (k_ixt K rfl) (pv 0) (pv 8) (fun _ _ => rfl)) pa_nil)) pa_nil)) (pg_name (i := 10) sc_least_parting.nd rfl (Or.inl rfl))
      (pss_cons (ps_set (i := 11) sc_least_parting.nd rfl (Or.inl rfl) (pe_op (k_catA K rfl) (pe_dget (hu_of hr) (pv 5) (pe_ix (k_ixl K rfl) (pv 6) (pv 7) (fun _ _ => rfl)) (fun _ _ => rfl)) (pe_tup (pa_cons (pv 10) pa_nil))))
      (pss_cons (ps_if (pt_cmpR (k_neD K rfl hr.units) (pe_call G_sight_behind_ (hr.mono (by decide)) (by rfl) m_sight_behind_ kp_sight_behind_ b_sight_behind_ .nil pass0 (pa_cons (pv 0) (pa_cons (pv 8) (pa_cons (pv 10) (pa_cons (pe_ix (k_ixt K rfl) (pv 4) pe_int (fun _ _ => rfl)) pa_nil))))) (pe_call G_sight_behind_ (hr.mono (by decide)) (by rfl) m_sight_behind_ kp_sight_behind_ b_sight_behind_ .nil pass0 (pa_cons (pv 2) (pa_cons (pv 9) (pa_cons (pv 10) (pa_cons (pe_ix (k_ixt K rfl) (pv 4) pe_int (fun _ _ => rfl)) pa_nil))))) (nomark _)) (pss_one (ps_ret (pv 11))) pss_nil)
      (pss_cons (ps_set (i := 12) sc_least_parting.nd rfl (Or.inl rfl) (pe_tup (pa_cons (pe_ix (k_ixt K rfl) (pe_ix (k_ixt K rfl) (pe_ix (k_ixt K rfl) (pv 0) (pv 8) (fun _ _ => rfl)) (pv 10) (fun _ _ => rfl)) pe_int (fun _ _ => rfl)) (pa_cons (pe_ix (k_ixt K rfl) (pe_ix (k_ixt K rfl) (pe_ix (k_ixt K rfl) (pv 2) (pv 9) (fun _ _ => rfl)) (pv 10) (fun _ _ => rfl)) pe_int (fun _ _ => rfl)) pa_nil))))
      (pss_one (ps_if (pt_cmp (pc_dnotin (hu_of hr) (pv 12) (pv 5))) (pss_cons (ps_asg (pv 11) (pg_sub (pv 5) (pv 12) (set_dict (hu_of hr))))
      (pss_one (ps_expr (k_bm K rfl PySem.F.plainAttrs_list PySem.F.slot_list_append PySem.F.type_list_append mt_append (pv 6) (pa_cons (pv 12) pa_nil))))) pss_nil))))))
      (pss_one (ps_aug (i := 7) sc_least_parting.nd rfl (Or.inl rfl) pe_int ip_add)))))
      (pss_one (ps_ret pe_non))))))), ?_⟩
    refine ⟨_, rfl, _, rfl, p, _, _, _, rfl, rfl, SqT.of hW.web, roomsV_at ha, _, _, rfl, .inr (SqT.of (hW.room a ha)), _, rfl, _, rfl, p', _, _, _, rfl, rfl, SqT.of hV.web, roomsV_at hb, _, _, rfl, .inr (SqT.of (hV.room b hb)), rfl, _, rfl, ite2 (fun e => ?_) (fun e => ?_)⟩
    · have hne : ¬ deg W a = deg V b := fun z => by
        rw [endsV_len, endsV_len, z] at e
        simp at e
      refine ⟨Nat.zero_le _, fun t0 ht => ?_⟩
      refine k _ _ (same_new ht) ?_
      unfold lp
      rw [if_neg hne]
      exact ⟨t0, rfl, upd_same⟩
    · have hdg : deg W a = deg V b := by
        rw [endsV_len, endsV_len] at e
        by_cases z : (iv (deg W a)) = iv (deg V b)
        · have := L2.V.int.inj z; omega
        · exact (e (by rw [decide_eq_false z]; rfl)).elim
      refine fun wd hwd => ⟨_, rfl, _, rfl, sz1000 (by show 2 ≤ 100000; decide), fun kt hkt => ⟨Nat.zero_le _, fun ut hut => ?_⟩⟩
      have ne1 : wd ≠ kt := ne_of_none upd_same hkt
      have ne2 : kt ≠ ut := ne_of_none upd_same hut
      have ne3 : wd ≠ ut := ne_of_none (show (upd (upd H wd (.dT [])) kt (.tup [iv a, iv b])) wd = some (.dT []) by rw [upd_ne ne1, upd_same]) hut
      refine ⟨by rw [upd_ne ne3, upd_ne ne1, upd_same], kt, pk (a, b), rfl, by rw [upd_ne ne2, upd_same]; rfl, ?_⟩
      refine ⟨_, rfl, _, rfl, sz1000 (by show 2 ≤ 100000; decide), fun k2 hk2 => ⟨sz1000 (by show 1 ≤ 100000; decide), fun wl hwl => ?_⟩⟩
      let H0 := upd (upd (upd H wd (.dT [])) kt (.tup [iv a, iv b])) ut (.tup [])
      have hwd0 : H wd = none := hwd
      have hkt0 : H kt = none := (upd_none hkt).1
      have hut0 : H ut = none := (upd_none (upd_none hut).1).1
      have s0 : Same H H0 := same_mut (same_mut (same_new hwd) hkt0) hut0
      have s1 : Same H (upd H0 wd (.dT [(pk (a, b), .ref ut)])) := same_mut s0 hwd0
      have s2 := same_upd (o := .tup [iv a, iv b]) s1 hk2
      have s3 := same_upd (o := .lst [.ref k2]) s2 hwl
      have n1 : ut ≠ wd := ne3.symm
      have n2 : ut ≠ k2 := ne_of_none (show upd H0 wd (.dT [(pk (a, b), .ref ut)]) ut = some (.tup []) by rw [upd_ne n1]; exact upd_same) hk2
      have n3 : wd ≠ k2 := ne_of_none (show upd H0 wd (.dT [(pk (a, b), .ref ut)]) wd = some _ from upd_same) hk2
      have n4 : k2 ≠ wl := ne_of_none upd_same hwl
      have n5 : wd ≠ wl := ne_of_none (show upd (upd H0 wd (.dT [(pk (a, b), .ref ut)])) k2 (.tup [iv a, iv b]) wd = some (.dT [(pk (a, b), .ref ut)]) by rw [upd_ne n3, upd_same]) hwl
      have n6 : ut ≠ wl := ne_of_none (show upd (upd H0 wd (.dT [(pk (a, b), .ref ut)])) k2 (.tup [iv a, iv b]) ut = some (.tup []) by rw [upd_ne n2, upd_ne n1]; exact upd_same) hwl
      have hwl0 : H wl = none := s2.free hwl
      refine ⟨fun m σ H' => ∃ (i : Nat) (Qc : Qu) (lv rv dv wv pv : Option L2.V), σ = [some (.ref p), some (iv a), some (.ref p'), some (iv b), some (.ref q), some (.ref wd), some (.ref wl), some (iv i), lv, rv, dv, wv, pv] ∧ Same H H' ∧ QH H' wd wl Qc ∧ BInv W V s t a b i Qc ∧
          bfs W V s t m i Qc = lp W V s t a b ∧ m + i = W.length * V.length + 1,
        ⟨W.length * V.length + 1, 0, [((a, b), [])], none, none, none, none, none, rfl, s3, ⟨⟨[(pk (a, b), .ref ut)], ?_, .cons ⟨rfl, ut, rfl, ?_⟩ .nil⟩, [.ref k2], upd_same, .cons ⟨k2, rfl, ?_⟩ .nil⟩, BInv.start ha hb hdg, ?_, rfl⟩, ?_⟩
      · rw [upd_ne n5, upd_ne n3, upd_same]
      · rw [upd_ne n6, upd_ne n2, upd_ne n1]; exact upd_same
      · rw [upd_ne n4, upd_same]
      · unfold lp
        rw [if_pos hdg]
      · rintro m σ H' ⟨i, Qc, lv, rv, dv, wv, pv, rfl, sH, hQ, hB, hbf, hmi⟩
        obtain ⟨ws, hw1, hw2⟩ := hQ.w
        refine ⟨_, rfl, _, rfl, wl, _, rfl, .inl (SqL.of hw1), _, _, rfl, rfl, _, rfl, ite2 (fun e => ?_) (fun e => ?_)⟩
        · have hiQ : i < Qc.length := by
            have := of_decide_eq_true e
            rw [paired_len hw2] at this
            omega
          obtain ⟨x, hx⟩ : ∃ x, Qc[i]? = some x := ⟨_, List.getElem?_eq_getElem hiQ⟩
          have hsz := hB.size
          obtain ⟨m', rfl⟩ : ∃ m', m = m' + 1 := ⟨m - 1, by omega⟩
          have hbx := hB.bd x (List.mem_of_getElem? hx)
          refine ⟨fun σ' H'' => ∃ (Qn : Qu) (lv rv dv wv pv : Option L2.V), σ' = [some (.ref p), some (iv a), some (.ref p'), some (iv b), some (.ref q), some (.ref wd), some (.ref wl), some (iv (i + 1)), lv, rv, dv, wv, pv] ∧ Same H H'' ∧ QH H'' wd wl Qn ∧ BInv W V s t a b (i + 1) Qn ∧
            bfs W V s t m' (i + 1) Qn = lp W V s t a b, fun σ' H'' hn => ?_, ?_⟩
          · obtain ⟨Qn, lv, rv, dv, wv, pv, e1, e2, e3, e4, e5⟩ := hn
            exact ⟨m', by omega, i + 1, Qn, lv, rv, dv, wv, pv, e1, e2, e3, e4, e5, by omega⟩
          · -- left, right = waiting[at]
            obtain ⟨xv, hxv, px, rfl, hpx⟩ := paired_get hw2 hx
            refine ⟨_, rfl, _, rfl, wl, _, _, _, rfl, rfl, SqL.of hw1, atI_nat hxv, px, _, rfl, SqT.of hpx, rfl, _, _, rfl, _, _, rfl, rfl, ?_⟩
            have hW' := hW.tm (Tm.of sH)
            refine ⟨_, rfl, _, rfl, p, _, _, _, rfl, rfl, SqT.of hW'.web, roomsV_at hbx.1, _, _, rfl, .inr (SqT.of (hW'.room _ hbx.1)), ?_⟩
            have hdl := smW.doors x.1.1
            refine ⟨_, rfl, by rw [endsV_len]; omega, by rw [endsV_len]; omega, for_range (lo := 0) (n := _) (fun j σ H'' => ∃ (Qj : Qu) (dv wv pv : Option L2.V), σ = [some (.ref p), some (iv a), some (.ref p'), some (iv b), some (.ref q), some (.ref wd), some (.ref wl), some (iv i), some (iv x.1.1), some (iv x.1.2), dv, wv, pv] ∧
                Same H H'' ∧ QH H'' wd wl Qj ∧ BInv W V s t a b i Qj ∧ Qj[i]? = some x ∧ (∀ d, d < j → Okd W V s t x d Qj) ∧ j ≤ deg W x.1.1 ∧ scan W V s t x.1.1 x.1.2 x.2 (deg W x.1.1 - j) j Qj = scan W V s t x.1.1 x.1.2 x.2 (deg W x.1.1) 0 Qc)
              ⟨Qc, _, _, _, rfl, sH, hQ, hB, hx, fun d hd => by omega, Nat.zero_le _, rfl⟩ ?_ ?_⟩
            · rintro j σ H2 hj ⟨Qj, dv, wv, pv, rfl, s4, hQ4, hB4, hx4, hok, hjd, hsc⟩
              rw [endsV_len] at hj
              have hj : j < deg W x.1.1 := by omega
              have hjV : j < deg V x.1.2 := by rw [← hbx.2.2]; exact hj
              obtain ⟨⟨kvs, hd1, hd2⟩, ws4, hw4, hw5⟩ := id hQ4
              obtain ⟨xv, hxv, py, rfl, hpy⟩ := paired_get hw5 hx4
              obtain ⟨yv, hyv, wa, rfl, hwa⟩ := drel_some hd2 hB4.nd hx4
              have hlx := hB4.len i x hx4
              have hilt := (List.getElem?_eq_some_iff.mp hx4).1
              have hszj := hB4.size
              rw [show (0 : Int) + (j : Int) = (j : Int) from Int.zero_add _]
              refine ⟨_, rfl, _, rfl, _, rfl, wl, _, _, _, rfl, rfl, SqL.of hw4, atI_nat hxv, wd, _, rfl, by rw [← hyv]; exact DGet.t hd1 hpy, _, rfl, sz1000 (by show 1 ≤ 100000; decide), fun dt hdt => ?_⟩
              have hwan : wa ≠ dt := ne_of_none hwa hdt
              refine catT (xs := x.2.map iv) (ys := [iv j]) (by rw [upd_ne hwan]; exact hwa) upd_same (sz1000 (by rw [List.length_map]; show x.2.length + 1 ≤ 100000; omega)) fun wt H3 s5 hwt => ?_
              have s6 : Same H2 H3 := (same_new hdt).trans s5
              have s7 : Same H H3 := s4.trans s6
              have hQ7 := hQ4.same s6
              have hW7 := hW.tm (Tm.of s7)
              have hV7 := hV.tm (Tm.of s7)
              have hwt' : H3 wt = some (.tup ((x.2 ++ [j]).map iv)) := by rw [hwt, List.map_append]; rfl
              refine ⟨_, rfl, _, rfl, _, rfl, _, rfl, q, _, _, _, rfl, rfl, SqT.of (s7 _ _ hq), atI_nat (j := 0) rfl, p, W, rm, en, x.1.1, j, s, rfl, hW7, cW, hj, fun v1 H4 s8 hs1 => ?_⟩
              refine ⟨_, rfl, _, rfl, _, rfl, _, rfl, q, _, _, _, rfl, rfl, SqT.of (s8 _ _ (s7 _ _ hq)), atI_nat (j := 1) rfl, p', V, rm', en', x.1.2, j, t, rfl, hV7.tm (Tm.of s8), cV, hjV, fun v2 H5 s9 hs2 => ?_⟩
              refine ⟨_, _, dp_sight (hs1.tm (Tm.of s9)), dp_sight hs2, sight_shaped _, sight_shaped _, _, rfl, ?_⟩
              rw [sight_eqv]
              have s10 : Same H H5 := (s7.trans s8).trans s9
              have s11 : Same H3 H5 := s8.trans s9
              refine ite2 (fun e => ?_) (fun e => ?_)
              · have hne : ¬ sight W s x.1.1 j = sight V t x.1.2 j := fun z => by rw [decide_eq_true z] at e; cases e
                refine ⟨_, rfl, ?_⟩
                refine k _ _ s10 ?_
                have hsc2 : scan W V s t x.1.1 x.1.2 x.2 (deg W x.1.1) 0 Qc = .inl (x.2 ++ [j]) := by
                  rw [← hsc, show deg W x.1.1 - j = (deg W x.1.1 - j - 1) + 1 by omega]
                  unfold scan
                  rw [if_neg hne]
                have : lp W V s t a b = some (x.2 ++ [j]) := by
                  rw [← hbf]
                  unfold bfs
                  rw [hx]
                  simp only [hsc2]
                rw [this]
                exact ⟨wt, rfl, s11 _ _ hwt'⟩
              · have heq : sight W s x.1.1 j = sight V t x.1.2 j := by
                  by_cases z : sight W s x.1.1 j = sight V t x.1.2 j
                  · exact z
                  · rw [decide_eq_false z] at e; exact (e rfl).elim
                have hW10 := hW.tm (Tm.of s10)
                have hV10 := hV.tm (Tm.of s10)
                have hx1 := cW.lt _ _ hj
                have hx2 := cV.lt _ _ hjV
                have hscan : scan W V s t x.1.1 x.1.2 x.2 (deg W x.1.1 - j) j Qj = (if ((nxt W x.1.1 j).1, (nxt V x.1.2 j).1) ∈ Qj.map (·.1) then scan W V s t x.1.1 x.1.2 x.2 (deg W x.1.1 - (j + 1)) (j + 1) Qj
                    else scan W V s t x.1.1 x.1.2 x.2 (deg W x.1.1 - (j + 1)) (j + 1) (Qj ++ [(((nxt W x.1.1 j).1, (nxt V x.1.2 j).1), x.2 ++ [j])])) := by
                  rw [show deg W x.1.1 - j = (deg W x.1.1 - (j + 1)) + 1 by omega]
                  conv => lhs; unfold scan
                  rw [if_pos heq]
                have ewd : ∀ i : Nat, deg W x.1.1 - i = deg W x.1.1 - i := fun _ => rfl
                refine ⟨_, rfl, _, rfl, p, _, _, _, rfl, rfl, SqT.of hW10.web, roomsV_at hbx.1, _, rfl, rm x.1.1, _, _, _, rfl, rfl, SqT.of (hW10.room _ hbx.1), endsV_at hj, en x.1.1 j, _, _, _, rfl, rfl, SqT.of (hW10.ends _ _ hj), atI_nat (j := 0) rfl,
                  _, rfl, _, rfl, p', _, _, _, rfl, rfl, SqT.of hV10.web, roomsV_at hbx.2.1, _, rfl, rm' x.1.2, _, _, _, rfl, rfl, SqT.of (hV10.room _ hbx.2.1), endsV_at hjV, en' x.1.2 j, _, _, _, rfl, rfl, SqT.of (hV10.ends _ _ hjV), atI_nat (j := 0) rfl,
                  sz1000 (by show 2 ≤ 100000; decide), fun pt hpt => ?_⟩
                have s12 := same_new (o := .tup [iv (nxt W x.1.1 j).1, iv (nxt V x.1.2 j).1]) hpt
                have s13 : Same H (upd H5 pt (.tup [iv (nxt W x.1.1 j).1, iv (nxt V x.1.2 j).1])) := s10.trans s12
                have hQ13 := (hQ7.same s11).same s12
                obtain ⟨⟨kvs5, hd5, hd6⟩, ws5, hw6, hw7⟩ := id hQ13
                have hkl : kvs5.length = Qj.length := paired_len hd6
                have hwl5 : ws5.length = Qj.length := paired_len hw7
                refine ⟨_, rfl, _, rfl, wd, _, rfl, DGet.t (k := pk ((nxt W x.1.1 j).1, (nxt V x.1.2 j).1)) hd5 upd_same, _, rfl, ?_⟩
                rw [drel_isSome hd6]
                refine ite2 (fun e => ?_) (fun e => ?_)
                · have hnm : ¬ ((nxt W x.1.1 j).1, (nxt V x.1.2 j).1) ∈ Qj.map (·.1) := fun z => by rw [decide_eq_true z] at e; cases e
                  refine ⟨_, rfl, _, rfl, _, rfl, wd, _, rfl, DPut.t (k := pk ((nxt W x.1.1 j).1, (nxt V x.1.2 j).1)) hd5 upd_same (sl1000 (by omega)), ?_⟩
                  rw [putK_new _ (drel_none hd6 hnm)]
                  have hne : wl ≠ wd := ne_of hw6 hd5 (fun z => nomatch z)
                  refine ⟨_, rfl, .inl ⟨rfl, _, SqL.of (by rw [upd_ne hne]; exact hw6)⟩, _, rfl, wl, _, _, rfl, rfl, by rw [upd_ne hne]; exact hw6, sl1000 (by omega), ?_⟩
                  let H6 := upd H5 pt (.tup [iv (nxt W x.1.1 j).1, iv (nxt V x.1.2 j).1])
                  have tm6 : Tm H6 (upd H6 wd (.dT (kvs5 ++ [(pk ((nxt W x.1.1 j).1, (nxt V x.1.2 j).1), .ref wt)]))) := Tm.dT hd5
                  have tm7 : Tm H6 (upd (upd H6 wd (.dT (kvs5 ++ [(pk ((nxt W x.1.1 j).1, (nxt V x.1.2 j).1), .ref wt)]))) wl (.lst (ws5 ++ [.ref pt]))) := tm6.trans (Tm.lst (by rw [upd_ne hne]; exact hw6))
                  refine ⟨Qj ++ [(((nxt W x.1.1 j).1, (nxt V x.1.2 j).1), x.2 ++ [j])], _, _, _, rfl, same_mut (same_mut s13 hwd0) hwl0, ⟨⟨kvs5 ++ [(pk ((nxt W x.1.1 j).1, (nxt V x.1.2 j).1), .ref wt)], ?_, paired_snoc ⟨rfl, wt, rfl, ?_⟩ (Paired.mapP hd6 fun _ _ z => ⟨z.1, z.2.tm tm7⟩)⟩, ws5 ++ [.ref pt], upd_same, paired_snoc ⟨pt, rfl, ?_⟩ (Paired.mapP hw7 fun _ _ z => z.tm tm7)⟩, hB4.push cW cV hx4 hj heq hnm, snoc_get_left hx4, fun d hd => ?_, hj, ?_⟩
                  · rw [upd_ne hne.symm, upd_same]
                  · exact tm7 _ _ (s12 _ _ (s11 _ _ hwt'))
                  · by_cases ed : d = j
                    · subst ed
                      exact ⟨heq, _, List.mem_append_right _ (List.mem_singleton.mpr rfl), rfl, by simp⟩
                    · exact (hok d (by omega)).mono
                  · rw [← hsc, hscan, if_neg hnm]
                  · exact tm7 _ _ upd_same
                · have hm : ((nxt W x.1.1 j).1, (nxt V x.1.2 j).1) ∈ Qj.map (·.1) := by
                    by_cases z : ((nxt W x.1.1 j).1, (nxt V x.1.2 j).1) ∈ Qj.map (·.1)
                    · exact z
                    · rw [decide_eq_false z] at e; exact (e rfl).elim
                  refine ⟨Qj, _, _, _, rfl, s13, hQ13, hB4, hx4, fun d hd => ?_, hj, ?_⟩
                  · by_cases ed : d = j
                    · subst ed
                      obtain ⟨y, hy, ey⟩ := List.mem_map.mp hm
                      exact ⟨heq, y, hy, ey, hB4.near x y hx4 hy⟩
                    · exact hok d (by omega)
                  · rw [← hsc, hscan, if_pos hm]
            · rintro σ H2 ⟨Qj, dv, wv, pv, rfl, s4, hQ4, hB4, hx4, hok, hjd, hsc⟩
              have ed : ((endsV W en x.1.1).length : Int).toNat = deg W x.1.1 := by rw [endsV_len]; omega
              rw [ed] at hok hsc
              refine ⟨_, rfl, _, _, rfl, rfl, Qj, _, _, _, _, _, rfl, s4, hQ4, hB4.next hx4 hok, ?_⟩
              rw [← hbf]
              conv => rhs; unfold bfs
              rw [hx]
              have : scan W V s t x.1.1 x.1.2 x.2 (deg W x.1.1) 0 Qc = .inr Qj := by
                rw [← hsc, Nat.sub_self]; rfl
              simp only [this]
        · have hiQ : Qc.length ≤ i := by
            rw [decide_eq_true_eq, paired_len hw2] at e
            omega
          refine k _ _ sH ?_
          have : lp W V s t a b = none := by
            rw [← hbf]
            cases m with
            | zero => rfl
            | succ m =>
              unfold bfs
              rw [List.getElem?_eq_none hiQ]
          rw [this]
          rfl
abbrev N_parting : List Str := ["one", "a", "other", "b"]
theorem sc_parting : FnScope N_parting ["one", "a", "other", "b"] (defScope s_parting) := ⟨rfl, rfl, rfl, by decide +kernel, rfl, by decide +kernel, by decide +kernel⟩
abbrev N_parting_with_stone : List Str := ["one", "a", "other", "b"]
theorem sc_parting_with_stone : FnScope N_parting_with_stone ["one", "a", "other", "b"] (defScope s_parting_with_stone) := ⟨rfl, rfl, rfl, by decide +kernel, rfl, by decide +kernel, by decide +kernel⟩
/-- two webs, two rooms, as arguments -/
structure TwoH (H : Hp) (p : Addr) (W : Web) (rm : Nat → Addr) (en : Nat → Nat → Addr) (a : Nat) (p' : Addr) (V : Web) (rm' : Nat → Addr) (en' : Nat → Nat → Addr) (b : Nat) : Prop where
  hW : WebH H p W rm en
  hV : WebH H p' V rm' en'
  cW : Closed W
  cV : Closed V
  smW : Small W
  smV : Small V
  hN : W.length * V.length ≤ 50000
  ha : a < W.length
  hb : b < V.length
theorem TwoH.tm {H H' : Hp} {p : Addr} {W : Web} {rm : Nat → Addr} {en : Nat → Nat → Addr} {a : Nat} {p' : Addr} {V : Web} {rm' : Nat → Addr} {en' : Nat → Nat → Addr} {b : Nat} (h : TwoH H p W rm en a p' V rm' en' b) (t : Tm H H') : TwoH H' p W rm en a p' V rm' en' b :=
  ⟨h.hW.tm t, h.hV.tm t, h.cW, h.cV, h.smW, h.smV, h.hN, h.ha, h.hb⟩
def spParting : Sp := fun vs H Q _ => ∃ (p : Addr) (W : Web) (rm : Nat → Addr) (en : Nat → Nat → Addr) (a : Nat) (p' : Addr) (V : Web) (rm' : Nat → Addr) (en' : Nat → Nat → Addr) (b : Nat),
  vs = [.ref p, iv a, .ref p', iv b] ∧ TwoH H p W rm en a p' V rm' en' b ∧ ∀ v H', Same H H' → OWayV H' v (lp W V none none a b) → Q v H'
def spStoned : Sp := fun vs H Q _ => ∃ (p : Addr) (W : Web) (rm : Nat → Addr) (en : Nat → Nat → Addr) (a : Nat) (p' : Addr) (V : Web) (rm' : Nat → Addr) (en' : Nat → Nat → Addr) (b : Nat),
  vs = [.ref p, iv a, .ref p', iv b] ∧ TwoH H p W rm en a p' V rm' en' b ∧ ∀ v H', Same H H' → OWayV H' v (lp W V (some a) (some b) a b) → Q v H'
theorem has_parting (B : Bt mg) (T : Top K mg "parting" s_parting) (H_least_parting_ : Has P w K mg base "least_parting" ["one", "a", "other", "b", "stones"] 2 spLeast) :
    Has P w K mg base "parting" ["one", "a", "other", "b"] 3 spParting := by
  obtain ⟨f_least_parting_, fd_least_parting_, G_least_parting_, m_least_parting_, kp_least_parting_, b_least_parting_⟩ := H_least_parting_.ex
  obtain ⟨f, fd, F, hm⟩ := T.ex
  refine ⟨f, fd, ?_, hm, F.kp, F.binds fun _ _ _ _ _ _ us hl => match us, hl with | [_, _, _, _], _ => rfl⟩
  refine F.ok sc_parting (fun vs H Q E h => ?_) (fun cdv A outer s H vs Q E hr h => ?_)
  · obtain ⟨p, W, rm, en, a, p', V, rm', en', b, rfl, _⟩ := h
    rfl
  · obtain ⟨p, W, rm, en, a, p', V, rm', en', b, rfl, h2, k⟩ := h
    refine ⟨_, (pss_one (ps_ret (pe_call G_least_parting_ (hr.mono (by decide)) (by rfl) m_least_parting_ kp_least_parting_ b_least_parting_ .nil pass0 (pa_cons (pv 0) (pa_cons (pv 1) (pa_cons (pv 2) (pa_cons (pv 3) (pa_cons (pe_tup (pa_cons pe_non (pa_cons pe_non pa_nil))) pa_nil)))))))), ?_⟩
    refine ⟨_, rfl, _, rfl, _, rfl, _, rfl, sz1000 (by show 2 ≤ 100000; decide), fun q hq => ?_⟩
    have h3 := h2.tm (Tm.new (o := .tup [.non, .non]) hq)
    exact ⟨p, W, rm, en, a, p', V, rm', en', b, q, none, none, rfl, h3.hW, h3.hV, h3.cW, h3.cV, h3.smW, h3.smV, h3.hN, h3.ha, h3.hb, upd_same, fun v H' s hv => k v H' ((same_new hq).trans s) hv⟩
theorem has_stoned (B : Bt mg) (T : Top K mg "parting_with_stone" s_parting_with_stone) (H_least_parting_ : Has P w K mg base "least_parting" ["one", "a", "other", "b", "stones"] 2 spLeast) :
    Has P w K mg base "parting_with_stone" ["one", "a", "other", "b"] 3 spStoned := by
  obtain ⟨f_least_parting_, fd_least_parting_, G_least_parting_, m_least_parting_, kp_least_parting_, b_least_parting_⟩ := H_least_parting_.ex
  obtain ⟨f, fd, F, hm⟩ := T.ex
  refine ⟨f, fd, ?_, hm, F.kp, F.binds fun _ _ _ _ _ _ us hl => match us, hl with | [_, _, _, _], _ => rfl⟩
  refine F.ok sc_parting_with_stone (fun vs H Q E h => ?_) (fun cdv A outer s H vs Q E hr h => ?_)
  · obtain ⟨p, W, rm, en, a, p', V, rm', en', b, rfl, _⟩ := h
    rfl
  · obtain ⟨p, W, rm, en, a, p', V, rm', en', b, rfl, h2, k⟩ := h
    refine ⟨_, (pss_one (ps_ret (pe_call G_least_parting_ (hr.mono (by decide)) (by rfl) m_least_parting_ kp_least_parting_ b_least_parting_ .nil pass0 (pa_cons (pv 0) (pa_cons (pv 1) (pa_cons (pv 2) (pa_cons (pv 3) (pa_cons (pe_tup (pa_cons (pv 1) (pa_cons (pv 3) pa_nil))) pa_nil)))))))), ?_⟩
    refine ⟨_, rfl, _, rfl, _, rfl, _, rfl, _, rfl, _, rfl, sz1000 (by show 2 ≤ 100000; decide), fun q hq => ?_⟩
    have h3 := h2.tm (Tm.new (o := .tup [iv a, iv b]) hq)
    exact ⟨p, W, rm, en, a, p', V, rm', en', b, q, some a, some b, rfl, h3.hW, h3.hV, h3.cW, h3.cV, h3.smW, h3.smV, h3.hN, h3.ha, h3.hb, upd_same, fun v H' s hv => k v H' ((same_new hq).trans s) hv⟩
end
end K18
namespace K18
open PySem PySem.Spec PyProof.Rows L2
section
variable {P : Program} {w : World} {K : PySem.W.Frag} {mg : Str → Option Value} {base : Heap}
/-! is_door_number, is_way, shows_parting -/
abbrev N_is_door_number : List Str := ["thing"]
theorem sc_is_door_number : FnScope N_is_door_number ["thing"] (defScope s_is_door_number) := ⟨rfl, rfl, rfl, by decide +kernel, rfl, by decide +kernel, by decide +kernel⟩
def spDoor : Sp := fun vs H Q _ => ∃ d : Nat, vs = [iv d] ∧ Q (.bl true) H
theorem has_door (B : Bt mg) (T : Top K mg "is_door_number" s_is_door_number) : Has P w K mg base "is_door_number" ["thing"] 1 spDoor := by
  obtain ⟨f, fd, F, hm⟩ := T.ex
  refine ⟨f, fd, ?_, hm, F.kp, F.binds fun _ _ _ _ _ _ us hl => match us, hl with | [_], _ => rfl⟩
  refine F.ok sc_is_door_number (fun vs H Q E h => ?_) (fun cdv A outer s H vs Q E hr h => ?_)
  · obtain ⟨d, rfl, _⟩ := h
    rfl
  · obtain ⟨d, rfl, k⟩ := h
    refine ⟨_, (pss_one (ps_ret (pe_and (pe_callB (k_isi K rfl) (by rfl) B.isinstance_ (by decide +kernel) (pa_cons (pv 0) (pa_cons (pe_bltn (v := .ty "int") (by rfl) B.int_ (by decide +kernel) rfl) pa_nil))) (pe_and (pe_not (pe_callB (k_isi K rfl) (by rfl) B.isinstance_ (by decide +kernel) (pa_cons (pv 0) (pa_cons (pe_bltn (v := .ty "bool") (by rfl) B.bool_ (by decide +kernel) rfl) pa_nil)))) (pe_one (pe_cmpR op_ge (pv 0) pe_int (nomark _))))))), ?_⟩
    refine ⟨_, rfl, _, _, .type "int", _, true, rfl, .ty _, .base (.int _), kit_ty (by decide +kernel), true, rfl, iteT ?_⟩
    refine ⟨_, rfl, _, _, .type "int", _, false, rfl, .ty _, .base (.int _), kit_ty (by decide +kernel), false, rfl, true, rfl, iteT ?_⟩
    refine ⟨_, rfl, _, _, rfl, rfl, ?_⟩
    show Q (.bl (decide ((0 : Int) ≤ (d : Int)))) H
    rw [decide_eq_true (by omega : (0 : Int) ≤ (d : Int))]
    exact k
theorem isi_tuple {K : PySem.W.Frag} : PySem.W.kitAny K (.type "tuple") [.type "tuple", .type "list"] = some true := kitAny_cons (b := true) (kit_ty (by decide +kernel)) (fun e => nomatch e) (fun _ => rfl)
theorem isi_list {K : PySem.W.Frag} : PySem.W.kitAny K (.type "list") [.type "tuple", .type "list"] = some true :=
  kitAny_cons (b := false) (kit_ty (by decide +kernel)) (fun _ => kitAny_cons (b := true) (kit_ty (by decide +kernel)) (fun e => nomatch e) (fun _ => rfl)) (fun e => nomatch e)
abbrev N_is_way : List Str := ["thing", "door"]
theorem sc_is_way : FnScope N_is_way ["thing"] (defScope s_is_way) := ⟨rfl, rfl, rfl, by decide +kernel, rfl, by decide +kernel, by decide +kernel⟩
def spIsWay : Sp := fun vs H Q _ => ∃ (q : Addr) (way : List Nat), vs = [.ref q] ∧ H q = some (.tup (way.map iv)) ∧ way.length ≤ 1000 ∧ ∀ H', Same H H' → Q (.bl true) H'
theorem has_isway (B : Bt mg) (T : Top K mg "is_way" s_is_way) (H_is_door_number_ : Has P w K mg base "is_door_number" ["thing"] 1 spDoor) : Has P w K mg base "is_way" ["thing"] 2 spIsWay := by
  obtain ⟨f_is_door_number_, fd_is_door_number_, G_is_door_number_, m_is_door_number_, kp_is_door_number_, b_is_door_number_⟩ := H_is_door_number_.ex
  obtain ⟨f, fd, F, hm⟩ := T.ex
  refine ⟨f, fd, ?_, hm, F.kp, F.binds fun _ _ _ _ _ _ us hl => match us, hl with | [_], _ => rfl⟩
  refine F.ok sc_is_way (fun vs H Q E h => ?_) (fun cdv A outer s H vs Q E hr h => ?_)
  · obtain ⟨q, way, rfl, _⟩ := h
    rfl
  · obtain ⟨q, way, rfl, hq, hl, k⟩ := h
    refine ⟨_, (pss_one (ps_ret (pe_and (pe_callB (k_isiT K rfl) (by rfl) B.isinstance_ (by decide +kernel) (pa_cons (pv 0) (pa_cons (pe_tup (pa_cons (pe_bltn (v := .ty "tuple") (by rfl) B.tuple_ (by decide +kernel) rfl) (pa_cons (pe_bltn (v := .ty "list") (by rfl) B.list_ (by decide +kernel) rfl) pa_nil))) pa_nil))) (pe_one (pe_callB (k_all K rfl rfl) (by rfl) B.all_ (by decide +kernel) (pa_cons (pe_lc (own := [("door", 1)]) (g := gName 1) rfl sc_is_way.nd (pi_tup (pv 0)) (blkOk_by (N := N_is_way) (sc := defScope s_is_way) (by decide +kernel)) (fun _ _ _ _ _ => (pg_name (i := 1) sc_is_way.nd rfl (Or.inl rfl))) (fun _ _ _ _ _ => pts_nil) (fun _ _ _ _ _ => (pe_call G_is_door_number_ (hr.mono (by decide)) (by rfl) m_is_door_number_ kp_is_door_number_ b_is_door_number_ .nil pass0 (pa_cons (pv 1) pa_nil)))) pa_nil)))))), ?_⟩
    refine ⟨_, rfl, sz1000 (by show 2 ≤ 100000; decide), fun tp htp => ?_⟩
    have s1 := same_new (o := .tup [.ty "tuple", .ty "list"]) htp
    refine ⟨_, tp, _, _, _, true, rfl, upd_same, .cons (.ty _) (.cons (.ty _) .nil), .base (.tup (s1 _ _ hq)), isi_tuple, true, rfl, iteT ?_⟩
    refine ⟨_, rfl, q, rfl, ⟨_, SqT.of (s1 _ _ hq)⟩, fun D hD => lcP walk_tup (fun _ _ z => z = .bl true) hD (by rw [List.length_map]; omega) (fun H' s => SqT.of (s _ _ (s1 _ _ hq))) (fun j z H' H'' _ r _ => r) (fun i Hi x Hx y => y_at y) ?_ ?_⟩
    · rintro i x Hi Hx Qc hi s2 _ ⟨rfl, hx⟩ q2
      obtain ⟨d, hd, rfl⟩ := map_get hx
      exact ⟨rfl, _, rfl, d, rfl, q2 _ _ (Same.refl _) rfl⟩
    · intro H' acc s2 hA hlen hval
      have e := bls_of (f := fun _ => true) hlen hval
      refine ⟨D, _, rfl, SqL.of (by rw [hA, e]), ?_⟩
      rw [all_rg, decide_eq_true (fun _ _ => rfl)]
      exact k H' (s1.trans s2)
abbrev N_shows_parting : List Str := ["one", "a", "other", "b", "way"]
theorem sc_shows_parting : FnScope N_shows_parting ["one", "a", "other", "b", "way"] (defScope s_shows_parting) := ⟨rfl, rfl, rfl, by decide +kernel, rfl, by decide +kernel, by decide +kernel⟩
def spShowsParting : Sp := fun vs H Q _ => ∃ (p : Addr) (W : Web) (rm : Nat → Addr) (en : Nat → Nat → Addr) (a : Nat) (p' : Addr) (V : Web) (rm' : Nat → Addr) (en' : Nat → Nat → Addr) (b : Nat) (q : Addr) (way : List Nat),
  vs = [.ref p, iv a, .ref p', iv b, .ref q] ∧ TwoH H p W rm en a p' V rm' en' b ∧ H q = some (.tup (way.map iv)) ∧ way.length ≤ 1000 ∧
  ∀ H', Same H H' → Q (.bl (if seenOf W a way = seenOf V b way then false else decide (some way.length = (lp W V none none a b).map List.length))) H'
theorem has_showsp (B : Bt mg) (T : Top K mg "shows_parting" s_shows_parting) (H_is_way_ : Has P w K mg base "is_way" ["thing"] 2 spIsWay) (H_seen_ : Has P w K mg base "seen" ["web", "room", "way"] 1 spSeen)
    (H_parting_ : Has P w K mg base "parting" ["one", "a", "other", "b"] 3 spParting) : Has P w K mg base "shows_parting" ["one", "a", "other", "b", "way"] 4 spShowsParting := by
  obtain ⟨f_is_way_, fd_is_way_, G_is_way_, m_is_way_, kp_is_way_, b_is_way_⟩ := H_is_way_.ex
  obtain ⟨f_seen_, fd_seen_, G_seen_, m_seen_, kp_seen_, b_seen_⟩ := H_seen_.ex
  obtain ⟨f_parting_, fd_parting_, G_parting_, m_parting_, kp_parting_, b_parting_⟩ := H_parting_.ex
  obtain ⟨f, fd, F, hm⟩ := T.ex
  refine ⟨f, fd, ?_, hm, F.kp, F.binds fun _ _ _ _ _ _ us hl => match us, hl with | [_, _, _, _, _], _ => rfl⟩
  refine F.ok sc_shows_parting (fun vs H Q E h => ?_) (fun cdv A outer s H vs Q E hr h => ?_)
  · obtain ⟨p, W, rm, en, a, p', V, rm', en', b, q, way, rfl, _⟩ := h
    rfl
  · obtain ⟨p, W, rm, en, a, p', V, rm', en', b, q, way, rfl, h2, hq, hl, k⟩ := h
    refine ⟨_, (pss_cons (ps_if (PW.pt (pw_or (pt_not (pt_val (pe_call G_is_way_ (hr.mono (by decide)) (by rfl) m_is_way_ kp_is_way_ b_is_way_ .nil pass0 (pa_cons (pv 4) pa_nil)))) (pw_or1 (pt_cmpR (k_eqD K rfl hr.units) (pe_call G_seen_ (hr.mono (by decide)) (by rfl) m_seen_ kp_seen_ b_seen_ .nil pass0 (pa_cons (pv 0) (pa_cons (pv 1) (pa_cons (pv 4) pa_nil)))) (pe_call G_seen_ (hr.mono (by decide)) (by rfl) m_seen_ kp_seen_ b_seen_ .nil pass0 (pa_cons (pv 2) (pa_cons (pv 3) (pa_cons (pv 4) pa_nil)))) (nomark _))))) (pss_one (ps_ret pe_bl)) pss_nil)
      (pss_one (ps_ret (pe_cmpR op_eq (pe_callB (k_len K rfl) (by rfl) B.len_ PySem.boot_len (pa_cons (pv 4) pa_nil)) (pe_callB (k_len K rfl) (by rfl) B.len_ PySem.boot_len (pa_cons (pe_call G_parting_ (hr.mono (by decide)) (by rfl) m_parting_ kp_parting_ b_parting_ .nil pass0 (pa_cons (pv 0) (pa_cons (pv 1) (pa_cons (pv 2) (pa_cons (pv 3) pa_nil))))) pa_nil)) (nomark _))))), ?_⟩
    refine ⟨_, rfl, q, way, rfl, hq, hl, fun H1 s1 => ⟨true, rfl, iteF ?_⟩⟩
    have h3 := h2.tm (Tm.of s1)
    refine ⟨_, rfl, _, rfl, _, rfl, p, W, rm, en, a, q, way, rfl, h3.hW, h3.cW, h3.ha, s1 _ _ hq, hl, fun v1 H2 s2 hv1 => ?_⟩
    have h4 := h3.tm (Tm.of s2)
    refine ⟨_, rfl, _, rfl, _, rfl, p', V, rm', en', b, q, way, rfl, h4.hV, h4.cV, h4.hb, s2 _ _ (s1 _ _ hq), hl, fun v2 H3 s3 hv2 => ?_⟩
    refine ⟨_, _, dp_seen (hv1.tm (Tm.of s3)), dp_seen hv2, seen_shaped _, seen_shaped _, _, rfl, ?_⟩
    rw [seen_eqv]
    have s13 := (s1.trans s2).trans s3
    refine ite2 (fun e => ?_) (fun e => ?_)
    · have e := of_decide_eq_true e
      have := k H3 s13
      rw [if_pos e] at this
      exact this
    · have e : ¬ seenOf W a way = seenOf V b way := fun z => e (decide_eq_true z)
      have h5 := h4.tm (Tm.of s3)
      refine ⟨_, rfl, q, _, rfl, .inr (SqT.of (s13 _ _ hq)), ?_⟩
      refine ⟨_, rfl, _, rfl, _, rfl, _, rfl, p, W, rm, en, a, p', V, rm', en', b, rfl, h5, fun v3 H4 s4 hv3 => ?_⟩
      have ht := lp_told (s := none) (t := none) h2.cW h2.cV h2.ha h2.hb
      cases hlp : lp W V none none a b with
      | none =>
        rw [hlp] at ht
        exact (e ((ht way.length).seenOf (Nat.le_refl _))).elim
      | some wy =>
        rw [hlp] at hv3
        obtain ⟨t3, rfl, ht3⟩ := hv3
        refine ⟨t3, _, rfl, .inr (SqT.of ht3), rfl, ?_⟩
        have := k H4 (s13.trans s4)
        rw [if_neg e, hlp] at this
        have ed : decide (L2.V.int ((way.map iv).length : Int) = L2.V.int ((wy.map iv).length : Int)) = decide (some way.length = (some wy).map List.length) := by
          rw [List.length_map, List.length_map]
          by_cases z : way.length = wy.length
          · rw [z]; simp
          · have n1 : ¬ L2.V.int (way.length : Int) = L2.V.int (wy.length : Int) := fun q => z (by have := L2.V.int.inj q; omega)
            have n2 : ¬ some way.length = (some wy).map List.length := fun q => z (Option.some.inj q)
            rw [decide_eq_false n1, decide_eq_false n2]
        rw [ed]
        exact this
end
end K18
namespace K18
open PySem PySem.Spec PyProof.Rows L2
section
variable {P : Program} {w : World} {K : PySem.W.Frag} {mg : Str → Option Value} {base : Heap}
/-! pairs_behind, pairing -/
/-- the pairs to which the doors of both rooms lead -/
def behind (W V : Web) (x : Pt) : List Pt := (List.range (deg W x.1)).map fun d => ((nxt W x.1 d).1, (nxt V x.2 d).1)
theorem behind_len (W V : Web) (x : Pt) : (behind W V x).length = deg W x.1 := by unfold behind; simp
theorem behind_get {W V : Web} {x : Pt} {d : Nat} (h : d < deg W x.1) : (behind W V x)[d]? = some ((nxt W x.1 d).1, (nxt V x.2 d).1) := rg_get h
abbrev N_pairs_behind : List Str := ["one", "other", "pair", "end", "beside"]
theorem sc_pairs_behind : FnScope N_pairs_behind ["one", "other", "pair"] (defScope s_pairs_behind) := ⟨rfl, rfl, rfl, by decide +kernel, rfl, by decide +kernel, by decide +kernel⟩
def spBehind : Sp := fun vs H Q _ => ∃ (p : Addr) (W : Web) (rm : Nat → Addr) (en : Nat → Nat → Addr) (p' : Addr) (V : Web) (rm' : Nat → Addr) (en' : Nat → Nat → Addr) (q : Addr) (x : Pt),
  vs = [.ref p, .ref p', .ref q] ∧ WebH H p W rm en ∧ WebH H p' V rm' en' ∧ Small W ∧ H q = some (.tup [iv x.1, iv x.2]) ∧ x.1 < W.length ∧ x.2 < V.length ∧ deg W x.1 = deg V x.2 ∧
  ∀ D H' ys, Same H H' → H D = none → H' D = some (.lst ys) → Paired (PtV H') ys (behind W V x) → Q (.ref D) H'
theorem has_behind (B : Bt mg) (T : Top K mg "pairs_behind" s_pairs_behind) : Has P w K mg base "pairs_behind" ["one", "other", "pair"] 1 spBehind := by
  obtain ⟨f, fd, F, hm⟩ := T.ex
  refine ⟨f, fd, ?_, hm, F.kp, F.binds fun _ _ _ _ _ _ us hl => match us, hl with | [_, _, _], _ => rfl⟩
  refine F.ok sc_pairs_behind (fun vs H Q E h => ?_) (fun cdv A outer s H vs Q E hr h => ?_)
  · obtain ⟨p, W, rm, en, p', V, rm', en', q, x, rfl, _⟩ := h
    rfl
  · obtain ⟨p, W, rm, en, p', V, rm', en', q, x, rfl, hW, hV, smW, hq, hl, hr2, hdg, k⟩ := h
    refine ⟨_, (pss_one (ps_ret (pe_lc (own := [("end", 3), ("beside", 4)]) (g := gTup K 2 (gCons (gName 3) (gCons (gName 4) gNil))) rfl sc_pairs_behind.nd (RZ.pi_zipA (by rfl) B.zip_ (pa_cons (pe_ix (k_ixt K rfl) (pv 0) (pe_ix (k_ixt K rfl) (pv 2) pe_int (fun _ _ => rfl)) (fun _ _ => rfl)) (pa_cons (pe_ix (k_ixt K rfl) (pv 1) (pe_ix (k_ixt K rfl) (pv 2) pe_int (fun _ _ => rfl)) (fun _ _ => rfl)) pa_nil))) (blkOk_by (N := N_pairs_behind) (sc := defScope s_pairs_behind) (by decide +kernel)) (fun _ _ _ _ _ => (pg_tup rfl (pgs_cons (pg_name (i := 3) sc_pairs_behind.nd rfl (Or.inl rfl)) (pgs_cons (pg_name (i := 4) sc_pairs_behind.nd rfl (Or.inl rfl)) pgs_nil)))) (fun _ _ _ _ _ => pts_nil) (fun _ _ _ _ _ => (pe_tup (pa_cons (pe_ix (k_ixt K rfl) (pv 3) pe_int (fun _ _ => rfl)) (pa_cons (pe_ix (k_ixt K rfl) (pv 4) pe_int (fun _ _ => rfl)) pa_nil))))))), ?_⟩
    have hn : deg W x.1 = min (endsV W en x.1).length (endsV V en' x.2).length := by rw [endsV_len, endsV_len, ← hdg]; omega
    refine ⟨_, rfl, _, rfl, q, _, _, _, rfl, rfl, SqT.of hq, atI_nat (j := 0) rfl, p, _, _, _, rfl, rfl, SqT.of hW.web, roomsV_at hl, _, rfl, _, rfl, q, _, _, _, rfl, rfl, SqT.of hq, atI_nat (j := 1) rfl, p', _, _, _, rfl, rfl, SqT.of hV.web, roomsV_at hr2,
      rm x.1, rm' x.2, _, _, rfl, .inr ⟨SqT.of (hW.room _ hl), SqT.of (hV.room _ hr2), fun D hD => lcP (walk_zipT hn) (fun j H z => PtV H z ((nxt W x.1 j).1, (nxt V x.2 j).1)) hD (by have := smW.doors x.1; omega) (fun H' s => ⟨SqT.of (s _ _ (hW.room _ hl)), SqT.of (s _ _ (hV.room _ hr2))⟩)
        (fun j z H' H'' hA r k => r.tm (r_tm hA k)) (fun i Hi x Hx y => y_pair y) ?_ ?_⟩⟩
    · rintro i v Hi Hx Qc hi s1 hDn ⟨t, y1, y2, rfl, ht, rfl, hy1, hy2⟩ q2
      have hiV : i < deg V x.2 := by rw [← hdg]; exact hi
      have e1 : y1 = .ref (en x.1 i) := Option.some.inj (hy1.symm.trans (endsV_get hi))
      have e2 : y2 = .ref (en' x.2 i) := Option.some.inj (hy2.symm.trans (endsV_get hiV))
      subst e1; subst e2
      have s2 := same_upd (o := .tup [.ref (en x.1 i), .ref (en' x.2 i)]) s1 ht
      refine ⟨t, _, rfl, SqT.of upd_same, rfl, _, _, rfl, _, _, rfl, rfl, rfl, ?_⟩
      refine ⟨_, rfl, en x.1 i, _, _, _, rfl, rfl, SqT.of (s2 _ _ (hW.ends _ _ hi)), atI_nat (j := 0) rfl, _, rfl, en' x.2 i, _, _, _, rfl, rfl, SqT.of (s2 _ _ (hV.ends _ _ hiV)), atI_nat (j := 0) rfl, sz1000 (by show 2 ≤ 100000; decide), fun t2 ht2 => ?_⟩
      exact q2 _ _ (same_new ht2) ⟨t2, rfl, upd_same⟩
    · intro H' acc s1 hA hlen hval
      refine k D H' acc s1 hD hA (paired_of (by rw [hlen, behind_len]) fun i y z hy hz => ?_)
      have hi : i < deg W x.1 := by have := len_lt hy; omega
      have e : z = ((nxt W x.1 i).1, (nxt V x.2 i).1) := Option.some.inj (hz.symm.trans (behind_get hi))
      rw [e]
      exact hval i y hy
/-- pairs that tell that two rooms are alike -/
structure PairOk (W V : Web) (a b : Nat) (Ps : List Pt) : Prop where
  has : (a, b) ∈ Ps
  one : ∀ x ∈ Ps, x.1 < W.length
  other : ∀ x ∈ Ps, x.2 < V.length
  deg : ∀ x ∈ Ps, K18.deg W x.1 = K18.deg V x.2
  came : ∀ x ∈ Ps, ∀ d, d < K18.deg W x.1 → (nxt W x.1 d).2 = (nxt V x.2 d).2
  next : ∀ x ∈ Ps, ∀ d, d < K18.deg W x.1 → ((nxt W x.1 d).1, (nxt V x.2 d).1) ∈ Ps
  len : Ps.length ≤ 50000
  nd : Ps.Nodup
theorem PairOk.perm {W V : Web} {a b : Nat} {Ps Qs : List Pt} (h : PairOk W V a b Ps) (p : Qs.Perm Ps) : PairOk W V a b Qs :=
  ⟨p.mem_iff.mpr h.has, fun x hx => h.one x (p.mem_iff.mp hx), fun x hx => h.other x (p.mem_iff.mp hx), fun x hx => h.deg x (p.mem_iff.mp hx), fun x hx => h.came x (p.mem_iff.mp hx), fun x hx d hd => p.mem_iff.mpr (h.next x (p.mem_iff.mp hx) d hd), by rw [p.length_eq]; exact h.len, p.nodup_iff.mpr h.nd⟩
theorem paired_perm {α β : Type} {R : α → β → Prop} {l l' : List α} (h : l'.Perm l) : ∀ {m : List β}, Paired R l m → ∃ m', m'.Perm m ∧ Paired R l' m' := by
  induction h with
  | nil => intro m r; exact ⟨m, List.Perm.refl _, r⟩
  | cons x _ ih =>
    intro m r
    cases r with
    | cons r1 r2 =>
      obtain ⟨m', p, q⟩ := ih r2
      exact ⟨_ :: m', p.cons _, .cons r1 q⟩
  | swap x y l =>
    intro m r
    cases r with
    | cons r1 r2 =>
      cases r2 with
      | cons r3 r4 => exact ⟨_, List.Perm.swap _ _ _, .cons r3 (.cons r1 r4)⟩
  | trans _ _ ih1 ih2 =>
    intro m r
    obtain ⟨m1, p1, q1⟩ := ih2 r
    obtain ⟨m2, p2, q2⟩ := ih1 q1
    exact ⟨m2, p2.trans p1, q2⟩
abbrev MRel : List (List Key × V) → List (Pt × Unit) → Prop := DRel (fun v _ => v = V.bl true)
structure MH (H : Hp) (md wl : Addr) (M : List (Pt × Unit)) (S : List Pt) : Prop where
  d : ∃ kvs, H md = some (.dT kvs) ∧ MRel kvs M
  w : ∃ ws, H wl = some (.lst ws) ∧ Paired (PtV H) ws S
theorem MH.same {H H' : Hp} {md wl : Addr} {M : List (Pt × Unit)} {S : List Pt} (h : MH H md wl M S) (s : Same H H') : MH H' md wl M S := by
  obtain ⟨⟨kvs, h1, h2⟩, ws, h3, h4⟩ := h
  exact ⟨⟨kvs, s _ _ h1, h2⟩, ws, s _ _ h3, pts_tm (Tm.of s) h4⟩
/-- what holds of the pairs met -/
structure MInv (W V : Web) (a b : Nat) (M : List (Pt × Unit)) : Prop where
  nd : (M.map (·.1)).Nodup
  has : (a, b) ∈ M.map (·.1)
  ok : ∀ x ∈ M.map (·.1), x.1 < W.length ∧ x.2 < V.length ∧ ∀ k, Lk W V none none k x.1 x.2
theorem MInv.size {W V : Web} {a b : Nat} {M : List (Pt × Unit)} (h : MInv W V a b M) : M.length ≤ W.length * V.length := by
  have := pairs_len (l := M.map (·.1)) h.nd fun x hx => ⟨(h.ok x hx).1, (h.ok x hx).2.1⟩
  simpa using this
theorem MInv.push {W V : Web} {a b : Nat} {M : List (Pt × Unit)} (h : MInv W V a b M) (cW : Closed W) (cV : Closed V) {x : Pt} (hx : x ∈ M.map (·.1)) {d : Nat} (hd : d < deg W x.1) (hn : ¬ ((nxt W x.1 d).1, (nxt V x.2 d).1) ∈ M.map (·.1)) :
    MInv W V a b (M ++ [(((nxt W x.1 d).1, (nxt V x.2 d).1), ())]) := by
  obtain ⟨h1, h2, h3⟩ := h.ok x hx
  have hdV : d < deg V x.2 := by rw [← (h3 0)]; exact hd
  refine ⟨?_, ?_, ?_⟩
  · rw [List.map_append]
    exact List.nodup_append.mpr ⟨h.nd, by simp, by
      intro p hp q hq e
      simp only [List.map_cons, List.map_nil, List.mem_singleton] at hq
      subst hq; subst e
      exact hn hp⟩
  · rw [List.map_append]; exact List.mem_append_left _ h.has
  · intro y hy
    rw [List.map_append] at hy
    rcases List.mem_append.mp hy with hy | hy
    · exact h.ok y hy
    · simp only [List.map_cons, List.map_nil, List.mem_singleton] at hy
      subst hy
      exact ⟨cW.lt _ _ hd, cV.lt _ _ hdV, fun k => ((h3 (k + 1)).2 d hd).2⟩
abbrev N_pairing : List Str := ["one", "a", "other", "b", "met", "waiting", "pair"]
theorem sc_pairing : FnScope N_pairing ["one", "a", "other", "b"] (defScope s_pairing) := ⟨rfl, rfl, rfl, by decide +kernel, rfl, by decide +kernel, by decide +kernel⟩
def spPairing : Sp := fun vs H Q _ => ∃ (p : Addr) (W : Web) (rm : Nat → Addr) (en : Nat → Nat → Addr) (a : Nat) (p' : Addr) (V : Web) (rm' : Nat → Addr) (en' : Nat → Nat → Addr) (b : Nat),
  vs = [.ref p, iv a, .ref p', iv b] ∧ TwoH H p W rm en a p' V rm' en' b ∧ (∀ wy H', Same H H' → lp W V none none a b = some wy → Q .non H') ∧
  ∀ D H' ys Ps, Same H H' → lp W V none none a b = none → H D = none → H' D = some (.lst ys) → Paired (PtV H') ys Ps → PairOk W V a b Ps → Q (.ref D) H'
theorem has_pairing (B : Bt mg) (T : Top K mg "pairing" s_pairing) (H_parting_ : Has P w K mg base "parting" ["one", "a", "other", "b"] 3 spParting) (H_pairs_behind_ : Has P w K mg base "pairs_behind" ["one", "other", "pair"] 1 spBehind) :
    Has P w K mg base "pairing" ["one", "a", "other", "b"] 4 spPairing := by
  obtain ⟨f_parting_, fd_parting_, G_parting_, m_parting_, kp_parting_, b_parting_⟩ := H_parting_.ex
  obtain ⟨f_pairs_behind_, fd_pairs_behind_, G_pairs_behind_, m_pairs_behind_, kp_pairs_behind_, b_pairs_behind_⟩ := H_pairs_behind_.ex
  obtain ⟨f, fd, F, hm⟩ := T.ex
  refine ⟨f, fd, ?_, hm, F.kp, F.binds fun _ _ _ _ _ _ us hl => match us, hl with | [_, _, _, _], _ => rfl⟩
  refine F.ok sc_pairing (fun vs H Q E h => ?_) (fun cdv A outer s H vs Q E hr h => ?_)
  · obtain ⟨p, W, rm, en, a, p', V, rm', en', b, rfl, _⟩ := h
    rfl
  · obtain ⟨p, W, rm, en, a, p', V, rm', en', b, rfl, h2, k1, k2⟩ := h
    refine ⟨_, (pss_cons (ps_if (pt_cmpR op_notN (pe_call G_parting_ (hr.mono (by decide)) (by rfl) m_parting_ kp_parting_ b_parting_ .nil pass0 (pa_cons (pv 0) (pa_cons (pv 1) (pa_cons (pv 2) (pa_cons (pv 3) pa_nil))))) pe_non (nomark _)) (pss_one (ps_ret pe_non)) pss_nil)
      (pss_cons (ps_set (i := 4) sc_pairing.nd rfl (Or.inl rfl) (pe_dispT hr.units (pe_tup (pa_cons (pv 1) (pa_cons (pv 3) pa_nil))) pe_bl))
      (pss_cons (ps_set (i := 5) sc_pairing.nd rfl (Or.inl rfl) (pe_lst (pa_cons (pe_tup (pa_cons (pv 1) (pa_cons (pv 3) pa_nil))) pa_nil)))
      (pss_cons (ps_while PassesOwn.never (pt_cmpR op_gt (pe_callB (k_len K rfl) (by rfl) B.len_ PySem.boot_len (pa_cons (pv 5) pa_nil)) pe_int (nomark _))
      (pss_one (ps_for PassesOwn.never rfl (pi_list (pe_call G_pairs_behind_ (hr.mono (by decide)) (by rfl) m_pairs_behind_ kp_pairs_behind_ b_pairs_behind_ .nil pass0 (pa_cons (pv 0) (pa_cons (pv 2) (pa_cons (pe_bm0 PySem.F.plainAttrs_list PySem.F.slot_list_pop PySem.F.type_list_pop mt_pop (pv 5)) pa_nil))))) (pg_name (i := 6) sc_pairing.nd rfl (Or.inl rfl))
      (pss_one (ps_if (pt_cmp (pc_dnotin (hu_of hr) (pv 6) (pv 4))) (pss_cons (ps_asg pe_bl (pg_sub (pv 4) (pv 6) (set_dict (hu_of hr))))
      (pss_one (ps_expr (k_bm K rfl PySem.F.plainAttrs_list PySem.F.slot_list_append PySem.F.type_list_append mt_append (pv 5) (pa_cons (pv 6) pa_nil))))) pss_nil)))))
      (pss_one (ps_ret (pe_callB (call_sortedDT rfl) (by rfl) B.sorted_ (by decide +kernel) (pa_cons (pv 4) pa_nil)))))))), ?_⟩
    refine ⟨_, rfl, _, rfl, _, rfl, _, rfl, p, W, rm, en, a, p', V, rm', en', b, rfl, h2, fun v1 H1 s1 hv1 => ⟨rfl, _, rfl, ?_⟩⟩
    have ht := lp_told (s := none) (t := none) h2.cW h2.cV h2.ha h2.hb
    cases hlp : lp W V none none a b with
    | some wy =>
      rw [hlp] at hv1
      obtain ⟨t3, rfl, ht3⟩ := hv1
      exact iteNS' (fun z => nomatch z) (k1 wy H1 s1 hlp)
    | none =>
      rw [hlp] at hv1 ht
      have hv1 : v1 = .non := hv1
      subst hv1
      refine iteNT rfl ?_
      have h3 := h2.tm (Tm.of s1)
      refine fun md hmd => ⟨_, rfl, _, rfl, sz1000 (by show 2 ≤ 100000; decide), fun kt hkt => ?_⟩
      have ne1 : md ≠ kt := ne_of_none upd_same hkt
      refine ⟨by rw [upd_ne ne1, upd_same], kt, pk (a, b), rfl, upd_same, ?_⟩
      refine ⟨_, rfl, _, rfl, sz1000 (by show 2 ≤ 100000; decide), fun k3 hk3 => ⟨sz1000 (by show 1 ≤ 100000; decide), fun wl hwl => ?_⟩⟩
      have hkt1 : H1 kt = none := (upd_none hkt).1
      have s2 : Same H1 (upd (upd (upd H1 md (.dT [])) kt (.tup [iv a, iv b])) md (.dT [(pk (a, b), .bl true)])) := same_mut (same_mut (same_new hmd) hkt1) hmd
      have s3 := same_upd (o := .tup [iv a, iv b]) s2 hk3
      have s4 := same_upd (o := .lst [.ref k3]) s3 hwl
      have n1 : md ≠ k3 := ne_of_none upd_same hk3
      have n2 : k3 ≠ wl := ne_of_none upd_same hwl
      have n3 : md ≠ wl := ne_of_none (show upd (upd (upd (upd H1 md (.dT [])) kt (.tup [iv a, iv b])) md (.dT [(pk (a, b), .bl true)])) k3 (.tup [iv a, iv b]) md = some (.dT [(pk (a, b), .bl true)]) by rw [upd_ne n1, upd_same]) hwl
      have hmd0 : H md = none := s1.free hmd
      have hwl1 : H1 wl = none := s3.free hwl
      have hwl0 : H wl = none := s1.free hwl1
      have s5 := s1.trans s4
      refine ⟨fun m σ H' => ∃ (M : List (Pt × Unit)) (S : List Pt) (pv : Option L2.V), σ = [some (.ref p), some (iv a), some (.ref p'), some (iv b), some (.ref md), some (.ref wl), pv] ∧ Same H H' ∧ MH H' md wl M S ∧ MInv W V a b M ∧ (∀ x ∈ S, x ∈ M.map (·.1)) ∧
          (∀ x ∈ M.map (·.1), x ∈ S ∨ ∀ d, d < deg W x.1 → ((nxt W x.1 d).1, (nxt V x.2 d).1) ∈ M.map (·.1)) ∧ m + 2 * M.length = 2 * (W.length * V.length) + S.length ∧ S.length ≤ M.length,
        ⟨2 * (W.length * V.length) - 1, [((a, b), ())], [(a, b)], none, rfl, s5, ⟨⟨[(pk (a, b), .bl true)], ?_, .cons ⟨rfl, rfl⟩ .nil⟩, [.ref k3], upd_same, .cons ⟨k3, rfl, ?_⟩ .nil⟩, ⟨by simp, by simp, ?_⟩, by simp, fun x hx => .inl (by simpa using hx), ?_, by simp⟩, ?_⟩
      · rw [upd_ne n3, upd_ne n1, upd_same]
      · rw [upd_ne n2, upd_same]
      · intro x hx
        have e : x = (a, b) := by simpa using hx
        subst e
        exact ⟨h2.ha, h2.hb, ht⟩
      · have := h2.ha
        have := h2.hb
        have : 0 < W.length * V.length := Nat.mul_pos (by omega) (by omega)
        show 2 * (W.length * V.length) - 1 + 2 * 1 = 2 * (W.length * V.length) + 1
        omega
      · rintro m σ H' ⟨M, S, pv, rfl, sH, hM, hI, hS, hdone, hm, hSM⟩
        obtain ⟨ws, hw1, hw2⟩ := hM.w
        refine ⟨_, rfl, wl, _, rfl, .inl (SqL.of hw1), _, _, rfl, rfl, _, rfl, ite2 (fun e => ?_) (fun e => ?_)⟩
        · have hpos : 0 < S.length := by
            have := of_decide_eq_true e
            rw [paired_len hw2] at this
            omega
          obtain ⟨S', x, rfl⟩ : ∃ S' x, S = S' ++ [x] := ⟨S.dropLast, S.getLast (by intro z; subst z; simp at hpos), by rw [List.dropLast_concat_getLast]⟩
          have hMs := hI.size
          obtain ⟨⟨kvs, hd1, hd2⟩, _⟩ := id hM
          have hxM : x ∈ M.map (·.1) := hS x (List.mem_append_right _ (List.mem_singleton.mpr rfl))
          obtain ⟨hx1, hx2, hxl⟩ := hI.ok x hxM
          have hwlen := paired_len hw2
          rw [List.length_append] at hwlen hm hSM
          have hSM : S'.length + 1 ≤ M.length := hSM
          have hwlen : ws.length = S'.length + 1 := hwlen
          have hm : m + 2 * M.length = 2 * (W.length * V.length) + (S'.length + 1) := hm
          obtain ⟨xv, hxv, px, rfl, hpx⟩ := paired_get hw2 (show (S' ++ [x])[S'.length]? = some x by simp)
          have hw3 : Paired (PtV H') ws.dropLast S' := by
            refine paired_of (by rw [List.length_dropLast, hwlen]; omega) fun i y z hy hz => ?_
            have hi := len_lt hz
            rw [List.getElem?_dropLast] at hy
            rw [if_pos (by omega)] at hy
            obtain ⟨y', hy', r⟩ := paired_get hw2 (show (S' ++ [x])[i]? = some z from snoc_get_left hz)
            rw [hy] at hy'
            cases hy'
            exact r
          refine ⟨fun σ' H'' => ∃ (M' : List (Pt × Unit)) (S1 : List Pt) (pv : Option L2.V), σ' = [some (.ref p), some (iv a), some (.ref p'), some (iv b), some (.ref md), some (.ref wl), pv] ∧ Same H H'' ∧ MH H'' md wl M' S1 ∧ MInv W V a b M' ∧ (∀ x ∈ S1, x ∈ M'.map (·.1)) ∧
            (∀ x ∈ M'.map (·.1), x ∈ S1 ∨ ∀ d, d < deg W x.1 → ((nxt W x.1 d).1, (nxt V x.2 d).1) ∈ M'.map (·.1)) ∧ M.length + S1.length = M'.length + S'.length ∧ M.length ≤ M'.length, fun σ' H'' hn => ?_, ?_⟩
          · obtain ⟨M', S1, pv, e1, e2, e3, e4, e5, e6, e7, e8⟩ := hn
            have hs1 := e4.size
            exact ⟨2 * (W.length * V.length) + S1.length - 2 * M'.length, by omega, M', S1, pv, e1, e2, e3, e4, e5, e6, by omega, by omega⟩
          · -- for pair in pairs_behind(one, other, waiting.pop())
            refine ⟨_, rfl, _, rfl, _, rfl, .inl ⟨rfl, _, SqL.of hw1⟩, wl, ws, .ref px, rfl, rfl, hw1, by rw [hwlen]; exact hxv, ?_⟩
            have tm1 : Tm H' (upd H' wl (.lst ws.dropLast)) := Tm.lst hw1
            have hA := h2.tm ((Tm.of sH).trans tm1)
            have sA : Same H (upd H' wl (.lst ws.dropLast)) := same_mut sH hwl0
            have nmw : md ≠ wl := ne_of hd1 hw1 (fun z => nomatch z)
            refine ⟨p, W, rm, en, p', V, rm', en', px, x, rfl, hA.hW, hA.hV, h2.smW, tm1 _ _ hpx, hx1, hx2, hxl 0, fun D H2 ys s6 hD hD2 hys => ?_⟩
            have hDn : H D = none := sA.free hD
            have nDm : md ≠ D := ne_of_none (show upd H' wl (.lst ws.dropLast) md = some (.dT kvs) by rw [upd_ne nmw]; exact hd1) hD
            have nDw : wl ≠ D := ne_of_none (show upd H' wl (.lst ws.dropLast) wl = some (.lst ws.dropLast) from upd_same) hD
            refine ⟨D, rfl, ⟨_, SqL.of hD2⟩, for_list (K := K) (a := D) (xs := ys) (fun i σ H3 => ∃ (M' : List (Pt × Unit)) (S1 : List Pt) (pv : Option L2.V), σ = [some (.ref p), some (iv a), some (.ref p'), some (iv b), some (.ref md), some (.ref wl), pv] ∧ Same H H3 ∧ H3 D = some (.lst ys) ∧ Paired (PtV H3) ys (behind W V x) ∧
                MH H3 md wl M' S1 ∧ MInv W V a b M' ∧ (∀ y ∈ M.map (·.1), y ∈ M'.map (·.1)) ∧ (∀ y ∈ S1, y ∈ M'.map (·.1)) ∧ (∀ y ∈ M'.map (·.1), y = x ∨ y ∈ S1 ∨ ∀ d, d < deg W y.1 → ((nxt W y.1 d).1, (nxt V y.2 d).1) ∈ M'.map (·.1)) ∧
                (∀ d, d < i → d < deg W x.1 → ((nxt W x.1 d).1, (nxt V x.2 d).1) ∈ M'.map (·.1)) ∧ M.length + S1.length = M'.length + S'.length ∧ M.length ≤ M'.length)
              ⟨M, S', pv, rfl, sA.trans s6, hD2, hys, ⟨⟨kvs, s6 _ _ (by rw [upd_ne nmw]; exact hd1), hd2⟩, ws.dropLast, s6 _ _ upd_same, pts_tm (tm1.trans (Tm.of s6)) hw3⟩, hI, fun y hy => hy, fun y hy => hS y (List.mem_append_left _ hy), fun y hy => ?_, fun d hd => by omega, rfl, Nat.le_refl _⟩
              (fun i σ H3 _ ⟨_, _, _, _, _, hD3, _⟩ => SqL.of hD3) ?_ ?_⟩
            · rcases hdone y hy with z | z
              · rcases List.mem_append.mp z with z | z
                · exact .inr (.inl z)
                · exact .inl (List.mem_singleton.mp z)
              · exact .inr (.inr z)
            · rintro i v σ H3 hi ⟨M', S1, pv, rfl, s7, hD3, hys3, hM3, hI3, hsub, hS3, hdone3, hok3, hlen3, hge3⟩
              obtain ⟨z, hz, pz, rfl, hpz⟩ := paired_get' hys3 hi
              have hid : i < deg W x.1 := by have := len_lt hz; rw [behind_len] at this; exact this
              have ez : z = ((nxt W x.1 i).1, (nxt V x.2 i).1) := Option.some.inj (hz.symm.trans (behind_get hid))
              subst ez
              obtain ⟨⟨kvs3, hd3, hd4⟩, ws3, hw4, hw5⟩ := id hM3
              have hsz3 := hI3.size
              have hNN := h2.hN
              refine ⟨_, rfl, _, rfl, md, _, rfl, DGet.t (k := pk ((nxt W x.1 i).1, (nxt V x.2 i).1)) hd3 hpz, _, rfl, ?_⟩
              rw [drel_isSome hd4]
              refine ite2 (fun e => ?_) (fun e => ?_)
              · have hnm : ¬ ((nxt W x.1 i).1, (nxt V x.2 i).1) ∈ M'.map (·.1) := fun z => by rw [decide_eq_true z] at e; cases e
                have hkl : kvs3.length = M'.length := paired_len hd4
                have hwl3 : ws3.length = S1.length := paired_len hw5
                have hxM3 : x ∈ M'.map (·.1) := hsub x hxM
                have hI4 := hI3.push h2.cW h2.cV hxM3 hid hnm
                have hsz4 := hI4.size
                rw [List.length_append] at hsz4
                have hsz4 : M'.length + 1 ≤ W.length * V.length := hsz4
                refine ⟨_, rfl, _, rfl, md, _, rfl, DPut.t (k := pk ((nxt W x.1 i).1, (nxt V x.2 i).1)) hd3 hpz (sl1000 (by omega)), ?_⟩
                rw [putK_new _ (drel_none hd4 hnm)]
                have hne : wl ≠ md := ne_of hw4 hd3 (fun z => nomatch z)
                refine ⟨_, rfl, .inl ⟨rfl, _, SqL.of (by rw [upd_ne hne]; exact hw4)⟩, _, rfl, wl, _, _, rfl, rfl, by rw [upd_ne hne]; exact hw4, sl1000 (by omega), ?_⟩
                have tm6 : Tm H3 (upd H3 md (.dT (kvs3 ++ [(pk ((nxt W x.1 i).1, (nxt V x.2 i).1), .bl true)]))) := Tm.dT hd3
                have tm7 : Tm H3 (upd (upd H3 md (.dT (kvs3 ++ [(pk ((nxt W x.1 i).1, (nxt V x.2 i).1), .bl true)]))) wl (.lst (ws3 ++ [.ref pz]))) := tm6.trans (Tm.lst (by rw [upd_ne hne]; exact hw4))
                refine ⟨M' ++ [(((nxt W x.1 i).1, (nxt V x.2 i).1), ())], S1 ++ [((nxt W x.1 i).1, (nxt V x.2 i).1)], _, rfl, same_mut (same_mut s7 hmd0) hwl0, by rw [upd_ne nDw.symm, upd_ne nDm.symm]; exact hD3, pts_tm tm7 hys3,
                  ⟨⟨kvs3 ++ [(pk ((nxt W x.1 i).1, (nxt V x.2 i).1), .bl true)], by rw [upd_ne hne.symm, upd_same], paired_snoc ⟨rfl, rfl⟩ hd4⟩, ws3 ++ [.ref pz], upd_same, paired_snoc ⟨pz, rfl, tm7 _ _ hpz⟩ (pts_tm tm7 hw5)⟩, hI4, fun y hy => ?_, fun y hy => ?_, fun y hy => ?_, fun d hd hdd => ?_, ?_, ?_⟩
                · rw [List.map_append]; exact List.mem_append_left _ (hsub y hy)
                · rw [List.map_append]
                  rcases List.mem_append.mp hy with hy | hy
                  · exact List.mem_append_left _ (hS3 y hy)
                  · exact List.mem_append_right _ hy
                · rw [List.map_append] at hy ⊢
                  rcases List.mem_append.mp hy with hy | hy
                  · rcases hdone3 y hy with z | z | z
                    · exact .inl z
                    · exact .inr (.inl (List.mem_append_left _ z))
                    · exact .inr (.inr fun d hd => List.mem_append_left _ (z d hd))
                  · exact .inr (.inl (List.mem_append_right _ hy))
                · rw [List.map_append]
                  by_cases ed : d = i
                  · subst ed; exact List.mem_append_right _ (List.mem_singleton.mpr rfl)
                  · exact List.mem_append_left _ (hok3 d (by omega) hdd)
                · rw [List.length_append, List.length_append]
                  show M.length + (S1.length + 1) = M'.length + 1 + S'.length
                  omega
                · rw [List.length_append]; omega
              · have hm3 : ((nxt W x.1 i).1, (nxt V x.2 i).1) ∈ M'.map (·.1) := by
                  by_cases z : ((nxt W x.1 i).1, (nxt V x.2 i).1) ∈ M'.map (·.1)
                  · exact z
                  · rw [decide_eq_false z] at e; exact (e rfl).elim
                refine ⟨M', S1, _, rfl, s7, hD3, hys3, hM3, hI3, hsub, hS3, hdone3, fun d hd hdd => ?_, hlen3, hge3⟩
                by_cases ed : d = i
                · subst ed; exact hm3
                · exact hok3 d (by omega) hdd
            · rintro σ H3 ⟨M', S1, pv, rfl, s7, hD3, hys3, hM3, hI3, hsub, hS3, hdone3, hok3, hlen3, hge3⟩
              refine ⟨M', S1, _, rfl, s7, hM3, hI3, hS3, fun y hy => ?_, hlen3, hge3⟩
              rcases hdone3 y hy with z | z | z
              · subst z
                have el : ys.length = deg W y.1 := by rw [paired_len hys3, behind_len]
                exact .inr fun d hd => hok3 d (by omega) hd
              · exact .inl z
              · exact .inr z
        · -- return sorted(met)
          have hS0 : S = [] := by
            rw [decide_eq_true_eq, paired_len hw2] at e
            exact List.length_eq_zero_iff.mp (by omega)
          subst hS0
          obtain ⟨⟨kvs, hd1, hd2⟩, _⟩ := id hM
          refine ⟨_, rfl, md, kvs, rfl, hd1, fun kv hkv => ?_, fun bs0 bs D hk0 hperm hD => ?_⟩
          · obtain ⟨j, hj⟩ := List.mem_iff_getElem?.mp hkv
            obtain ⟨x, _, e, _⟩ := paired_get' hd2 hj
            exact ⟨_, _, e⟩
          · have h0 : Paired (PtV H') (bs0.map L2.V.ref) (M.map (·.1)) := by
              refine paired_of ?_ fun i y z hy hz => ?_
              · rw [List.length_map, List.length_map, ← Paired.length hk0, paired_len hd2]
              · obtain ⟨b0, hb0, rfl⟩ := map_get hy
                obtain ⟨kv, hkv, hb1⟩ := paired_get hk0 hb0
                obtain ⟨x, hx, e, _⟩ := paired_get' hd2 hkv
                obtain ⟨x', hx', rfl⟩ := map_get hz
                rw [hx] at hx'
                cases hx'
                rw [e] at hb1
                exact ⟨b0, rfl, hb1⟩
            obtain ⟨Ps, hp1, hp2⟩ := paired_perm (hperm.map L2.V.ref) h0
            refine k2 D _ _ Ps (same_upd sH hD) hlp (sH.free hD) upd_same (pts_tm (Tm.new hD) hp2) (PairOk.perm ⟨hI.has, fun x hx => (hI.ok x hx).1, fun x hx => (hI.ok x hx).2.1, fun x hx => (hI.ok x hx).2.2 0, fun x hx d hd => ?_, fun x hx d hd => ?_, ?_, hI.nd⟩ hp1)
            · have := (((hI.ok x hx).2.2 1).2 d hd).1
              unfold sight at this
              injection this
            · rcases hdone x hx with z | z
              · cases z
              · exact z d hd
            · have := hI.size
              have := h2.hN
              rw [List.length_map]; omega
end
end K18
namespace K18
open PySem PySem.Spec PyProof.Rows L2
section
variable {P : Program} {w : World} {K : PySem.W.Frag} {mg : Str → Option Value} {base : Heap}
/-! is_room_of, is_pair_of, goes_along, shows_pairing -/
abbrev N_is_room_of : List Str := ["web", "thing"]
theorem sc_is_room_of : FnScope N_is_room_of ["web", "thing"] (defScope s_is_room_of) := ⟨rfl, rfl, rfl, by decide +kernel, rfl, by decide +kernel, by decide +kernel⟩
def spRoomOf : Sp := fun vs H Q _ => ∃ (p : Addr) (W : Web) (rm : Nat → Addr) (en : Nat → Nat → Addr) (r : Nat), vs = [.ref p, iv r] ∧ WebH H p W rm en ∧ r < W.length ∧ Q (.bl true) H
theorem has_roomof (B : Bt mg) (T : Top K mg "is_room_of" s_is_room_of) : Has P w K mg base "is_room_of" ["web", "thing"] 1 spRoomOf := by
  obtain ⟨f, fd, F, hm⟩ := T.ex
  refine ⟨f, fd, ?_, hm, F.kp, F.binds fun _ _ _ _ _ _ us hl => match us, hl with | [_, _], _ => rfl⟩
  refine F.ok sc_is_room_of (fun vs H Q E h => ?_) (fun cdv A outer s H vs Q E hr h => ?_)
  · obtain ⟨p, W, rm, en, r, rfl, _⟩ := h
    rfl
  · obtain ⟨p, W, rm, en, r, rfl, hW, hr2, k⟩ := h
    refine ⟨_, (pss_one (ps_ret (pe_and (pe_callB (k_isi K rfl) (by rfl) B.isinstance_ (by decide +kernel) (pa_cons (pv 1) (pa_cons (pe_bltn (v := .ty "int") (by rfl) B.int_ (by decide +kernel) rfl) pa_nil))) (pe_and (pe_not (pe_callB (k_isi K rfl) (by rfl) B.isinstance_ (by decide +kernel) (pa_cons (pv 1) (pa_cons (pe_bltn (v := .ty "bool") (by rfl) B.bool_ (by decide +kernel) rfl) pa_nil)))) (pe_one (pe_chain op_le op_lt pe_int (pv 1) (pe_callB (k_len K rfl) (by rfl) B.len_ PySem.boot_len (pa_cons (pv 0) pa_nil)))))))), ?_⟩
    refine ⟨_, rfl, _, _, .type "int", _, true, rfl, .ty _, .base (.int _), kit_ty (by decide +kernel), true, rfl, iteT ?_⟩
    refine ⟨_, rfl, _, _, .type "int", _, false, rfl, .ty _, .base (.int _), kit_ty (by decide +kernel), false, rfl, true, rfl, iteT ?_⟩
    refine ⟨_, rfl, _, _, rfl, rfl, _, rfl, ?_⟩
    rw [if_pos (decide_eq_true (Int.natCast_nonneg r))]
    refine ⟨_, rfl, p, _, rfl, .inr (SqT.of hW.web), _, _, rfl, rfl, ?_⟩
    show Q (.bl (decide ((r : Int) < ((roomsV W rm).length : Int)))) H
    rw [roomsV_len, decide_eq_true (by omega : (r : Int) < (W.length : Int))]
    exact k
abbrev N_is_pair_of : List Str := ["one", "other", "thing"]
theorem sc_is_pair_of : FnScope N_is_pair_of ["one", "other", "thing"] (defScope s_is_pair_of) := ⟨rfl, rfl, rfl, by decide +kernel, rfl, by decide +kernel, by decide +kernel⟩
def spPairOf : Sp := fun vs H Q _ => ∃ (p : Addr) (W : Web) (rm : Nat → Addr) (en : Nat → Nat → Addr) (p' : Addr) (V : Web) (rm' : Nat → Addr) (en' : Nat → Nat → Addr) (q : Addr) (x : Pt), vs = [.ref p, .ref p', .ref q] ∧ WebH H p W rm en ∧ WebH H p' V rm' en' ∧
  H q = some (.tup [iv x.1, iv x.2]) ∧ x.1 < W.length ∧ x.2 < V.length ∧ ∀ H', Same H H' → Q (.bl true) H'
theorem has_pairof (B : Bt mg) (T : Top K mg "is_pair_of" s_is_pair_of) (H_is_room_of_ : Has P w K mg base "is_room_of" ["web", "thing"] 1 spRoomOf) : Has P w K mg base "is_pair_of" ["one", "other", "thing"] 2 spPairOf := by
  obtain ⟨f_is_room_of_, fd_is_room_of_, G_is_room_of_, m_is_room_of_, kp_is_room_of_, b_is_room_of_⟩ := H_is_room_of_.ex
  obtain ⟨f, fd, F, hm⟩ := T.ex
  refine ⟨f, fd, ?_, hm, F.kp, F.binds fun _ _ _ _ _ _ us hl => match us, hl with | [_, _, _], _ => rfl⟩
  refine F.ok sc_is_pair_of (fun vs H Q E h => ?_) (fun cdv A outer s H vs Q E hr h => ?_)
  · obtain ⟨p, W, rm, en, p', V, rm', en', q, x, rfl, _⟩ := h
    rfl
  · obtain ⟨p, W, rm, en, p', V, rm', en', q, x, rfl, hW, hV, hq, h1, h2, k⟩ := h
    refine ⟨_, (pss_cons (ps_if (PW.pt (pw_or (pt_not (pt_val (pe_callB (k_isiT K rfl) (by rfl) B.isinstance_ (by decide +kernel) (pa_cons (pv 2) (pa_cons (pe_tup (pa_cons (pe_bltn (v := .ty "tuple") (by rfl) B.tuple_ (by decide +kernel) rfl) (pa_cons (pe_bltn (v := .ty "list") (by rfl) B.list_ (by decide +kernel) rfl) pa_nil))) pa_nil))))) (pw_or1 (pt_cmpR op_ne (pe_callB (k_len K rfl) (by rfl) B.len_ PySem.boot_len (pa_cons (pv 2) pa_nil)) pe_int (nomark _))))) (pss_one (ps_ret pe_bl)) pss_nil)
      (pss_one (ps_ret (pe_and (pe_call G_is_room_of_ (hr.mono (by decide)) (by rfl) m_is_room_of_ kp_is_room_of_ b_is_room_of_ .nil pass0 (pa_cons (pv 0) (pa_cons (pe_ix (k_ixt K rfl) (pv 2) pe_int (fun _ _ => rfl)) pa_nil))) (pe_one (pe_call G_is_room_of_ (hr.mono (by decide)) (by rfl) m_is_room_of_ kp_is_room_of_ b_is_room_of_ .nil pass0 (pa_cons (pv 1) (pa_cons (pe_ix (k_ixt K rfl) (pv 2) pe_int (fun _ _ => rfl)) pa_nil)))))))), ?_⟩
    refine ⟨_, rfl, sz1000 (by show 2 ≤ 100000; decide), fun tp htp => ?_⟩
    have s1 := same_new (o := .tup [.ty "tuple", .ty "list"]) htp
    have tm := Tm.of s1
    refine ⟨_, tp, _, _, _, true, rfl, upd_same, .cons (.ty _) (.cons (.ty _) .nil), .base (.tup (s1 _ _ hq)), isi_tuple, true, rfl, iteF ?_⟩
    refine ⟨_, rfl, q, _, rfl, .inr (SqT.of (s1 _ _ hq)), rfl, _, rfl, iteNT rfl ?_⟩
    refine ⟨_, rfl, _, rfl, q, _, _, _, rfl, rfl, SqT.of (s1 _ _ hq), atI_nat (j := 0) rfl, p, W, rm, en, x.1, rfl, hW.tm tm, h1, true, rfl, iteT ?_⟩
    exact ⟨_, rfl, _, rfl, q, _, _, _, rfl, rfl, SqT.of (s1 _ _ hq), atI_nat (j := 1) rfl, p', V, rm', en', x.2, rfl, hV.tm tm, h2, k _ s1⟩
abbrev N_goes_along : List Str := ["one", "other", "pair", "met", "left", "right", "end", "beside", "further"]
theorem sc_goes_along : FnScope N_goes_along ["one", "other", "pair", "met"] (defScope s_goes_along) := ⟨rfl, rfl, rfl, by decide +kernel, rfl, by decide +kernel, by decide +kernel⟩
def spGoes : Sp := fun vs H Q _ => ∃ (p : Addr) (W : Web) (rm : Nat → Addr) (en : Nat → Nat → Addr) (p' : Addr) (V : Web) (rm' : Nat → Addr) (en' : Nat → Nat → Addr) (q : Addr) (x : Pt) (md : Addr) (kvs : List (List Key × L2.V)) (M : List (Pt × Unit)),
  vs = [.ref p, .ref p', .ref q, .ref md] ∧ WebH H p W rm en ∧ WebH H p' V rm' en' ∧ Small W ∧ H q = some (.tup [iv x.1, iv x.2]) ∧ x.1 < W.length ∧ x.2 < V.length ∧ deg W x.1 = deg V x.2 ∧
  (∀ d, d < deg W x.1 → (nxt W x.1 d).2 = (nxt V x.2 d).2) ∧ Rd H md (.dT kvs) ∧ MRel kvs M ∧ (∀ d, d < deg W x.1 → ((nxt W x.1 d).1, (nxt V x.2 d).1) ∈ M.map (·.1)) ∧ ∀ H', Same H H' → Q (.bl true) H'
theorem rd_same {H H' : Hp} {a : Addr} {u : HO} (r : Rd H a u) (s : Same H H') : Rd H' a u := by
  rcases r with r | ⟨o, r⟩
  · exact .inl (s _ _ r)
  · exact .inr ⟨o, s _ _ r⟩
theorem has_goes (B : Bt mg) (T : Top K mg "goes_along" s_goes_along) (H_pairs_behind_ : Has P w K mg base "pairs_behind" ["one", "other", "pair"] 1 spBehind) : Has P w K mg base "goes_along" ["one", "other", "pair", "met"] 2 spGoes := by
  obtain ⟨f_pairs_behind_, fd_pairs_behind_, G_pairs_behind_, m_pairs_behind_, kp_pairs_behind_, b_pairs_behind_⟩ := H_pairs_behind_.ex
  obtain ⟨f, fd, F, hm⟩ := T.ex
  refine ⟨f, fd, ?_, hm, F.kp, F.binds fun _ _ _ _ _ _ us hl => match us, hl with | [_, _, _, _], _ => rfl⟩
  refine F.ok sc_goes_along (fun vs H Q E h => ?_) (fun cdv A outer s H vs Q E hr h => ?_)
  · obtain ⟨p, W, rm, en, p', V, rm', en', q, x, md, kvs, M, rfl, _⟩ := h
    rfl
  · obtain ⟨p, W, rm, en, p', V, rm', en', q, x, md, kvs, M, rfl, hW, hV, smW, hq, hl, hr2, hdg, hcame, hmd, hM, hin, k⟩ := h
    refine ⟨_, (pss_cons (ps_par (i := 4) (j := 5) (by rfl) sc_goes_along.nd rfl rfl (by decide) rfl rfl (pa_cons (pe_ix (k_ixt K rfl) (pv 0) (pe_ix (k_ixt K rfl) (pv 2) pe_int (fun _ _ => rfl)) (fun _ _ => rfl)) (pa_cons (pe_ix (k_ixt K rfl) (pv 1) (pe_ix (k_ixt K rfl) (pv 2) pe_int (fun _ _ => rfl)) (fun _ _ => rfl)) pa_nil)) (by rfl))
      (pss_cons (ps_if (PW.pt (pw_or (pt_cmpR op_ne (pe_callB (k_len K rfl) (by rfl) B.len_ PySem.boot_len (pa_cons (pv 4) pa_nil)) (pe_callB (k_len K rfl) (by rfl) B.len_ PySem.boot_len (pa_cons (pv 5) pa_nil)) (nomark _)) (pw_or1 (pt_val (pe_callB (k_any K rfl rfl) (by rfl) B.any_ (by decide +kernel) (pa_cons (pe_lc (own := [("end", 6), ("beside", 7)]) (g := gTup K 2 (gCons (gName 6) (gCons (gName 7) gNil))) rfl sc_goes_along.nd (RZ.pi_zipA (by rfl) B.zip_ (pa_cons (pv 4) (pa_cons (pv 5) pa_nil))) (blkOk_by (N := N_goes_along) (sc := defScope s_goes_along) (by decide +kernel)) (fun _ _ _ _ _ => (pg_tup rfl (pgs_cons (pg_name (i := 6) sc_goes_along.nd rfl (Or.inl rfl)) (pgs_cons (pg_name (i := 7) sc_goes_along.nd rfl (Or.inl rfl)) pgs_nil)))) (fun _ _ _ _ _ => pts_nil) (fun _ _ _ _ _ => (pe_cmpR op_ne (pe_ix (k_ixt K rfl) (pv 6) pe_int (fun _ _ => rfl)) (pe_ix (k_ixt K rfl) (pv 7) pe_int (fun _ _ => rfl)) (nomark _)))) pa_nil)))))) (pss_one (ps_ret pe_bl)) pss_nil)
      (pss_one (ps_ret (pe_callB (k_all K rfl rfl) (by rfl) B.all_ (by decide +kernel) (pa_cons (pe_lc (own := [("further", 8)]) (g := gName 8) rfl sc_goes_along.nd (pi_list (pe_call G_pairs_behind_ (hr.mono (by decide)) (by rfl) m_pairs_behind_ kp_pairs_behind_ b_pairs_behind_ .nil pass0 (pa_cons (pv 0) (pa_cons (pv 1) (pa_cons (pv 2) pa_nil))))) (blkOk_by (N := N_goes_along) (sc := defScope s_goes_along) (by decide +kernel)) (fun _ _ _ _ _ => (pg_name (i := 8) sc_goes_along.nd rfl (Or.inl rfl))) (fun _ _ _ _ _ => pts_nil) (fun _ _ _ _ _ => (pe_cmp (pc_din (hu_of hr) (pv 8) (pv 3)) rfl))) pa_nil)))))), ?_⟩
    have hn : deg W x.1 = min (endsV W en x.1).length (endsV V en' x.2).length := by rw [endsV_len, endsV_len, ← hdg]; omega
    have smd := smW.doors x.1
    refine ⟨_, rfl, _, rfl, q, _, _, _, rfl, rfl, SqT.of hq, atI_nat (j := 0) rfl, p, _, _, _, rfl, rfl, SqT.of hW.web, roomsV_at hl, _, rfl, _, rfl, q, _, _, _, rfl, rfl, SqT.of hq, atI_nat (j := 1) rfl, p', _, _, _, rfl, rfl, SqT.of hV.web, roomsV_at hr2, _, _, rfl, ?_⟩
    refine ⟨_, rfl, rm x.1, _, rfl, .inr (SqT.of (hW.room _ hl)), _, rfl, rm' x.2, _, rfl, .inr (SqT.of (hV.room _ hr2)), rfl, _, rfl, ?_⟩
    rw [endsV_len, endsV_len, hdg]
    refine iteNT rfl ?_
    refine ⟨_, rfl, _, rfl, rm x.1, rm' x.2, _, _, rfl, .inr ⟨SqT.of (hW.room _ hl), SqT.of (hV.room _ hr2), fun D hD => lcP (walk_zipT hn) (fun j H z => z = .bl false) hD (by omega) (fun H' s => ⟨SqT.of (s _ _ (hW.room _ hl)), SqT.of (s _ _ (hV.room _ hr2))⟩)
        (fun j z H' H'' hA r k => r) (fun i Hi x Hx y => y_pair y) ?_ ?_⟩⟩
    · rintro i v Hi Hx Qc hi s1 hDn ⟨t, y1, y2, rfl, ht, rfl, hy1, hy2⟩ q2
      have hiV : i < deg V x.2 := by rw [← hdg]; exact hi
      have e1 : y1 = .ref (en x.1 i) := Option.some.inj (hy1.symm.trans (endsV_get hi))
      have e2 : y2 = .ref (en' x.2 i) := Option.some.inj (hy2.symm.trans (endsV_get hiV))
      subst e1; subst e2
      have s2 := same_upd (o := .tup [.ref (en x.1 i), .ref (en' x.2 i)]) s1 ht
      refine ⟨t, _, rfl, SqT.of upd_same, rfl, _, _, rfl, _, _, rfl, rfl, rfl, ?_⟩
      refine ⟨_, rfl, en x.1 i, _, _, _, rfl, rfl, SqT.of (s2 _ _ (hW.ends _ _ hi)), atI_nat (j := 1) rfl, _, rfl, en' x.2 i, _, _, _, rfl, rfl, SqT.of (s2 _ _ (hV.ends _ _ hiV)), atI_nat (j := 1) rfl, rfl, ?_⟩
      exact q2 _ _ (Same.refl _) (by rw [hcame i hi]; simp)
    · intro H1 acc s1 hA hlen hval
      have e := bls_of (f := fun _ => false) hlen hval
      refine ⟨D, _, rfl, SqL.of (by rw [hA, e]), _, rfl, ?_⟩
      rw [any_rg, decide_eq_false (fun ⟨_, _, z⟩ => nomatch z)]
      refine iteF ?_
      have hWs := hW.tm (Tm.of s1)
      have hVs := hV.tm (Tm.of s1)
      refine ⟨_, rfl, _, rfl, _, rfl, p, W, rm, en, p', V, rm', en', q, x, rfl, hWs, hVs, smW, s1 _ _ hq, hl, hr2, hdg, fun L H2 ys s2 hL hL2 hys => ?_⟩
      have hyl : ys.length = deg W x.1 := by rw [paired_len hys, behind_len]
      refine ⟨L, rfl, ⟨_, SqL.of hL2⟩, fun D2 hD2 => lcP walk_list (fun _ _ z => z = .bl true) hD2 (by omega) (fun H' s => SqL.of (s _ _ hL2)) (fun j z H' H'' _ r _ => r) (fun i Hi x Hx y => y_at y) ?_ ?_⟩
      · rintro i v Hi Hx Qc hi s3 _ ⟨rfl, hx⟩ q2
        obtain ⟨z, hz, pz, rfl, hpz⟩ := paired_get' hys hx
        have hid : i < deg W x.1 := by omega
        have ez : z = ((nxt W x.1 i).1, (nxt V x.2 i).1) := Option.some.inj (hz.symm.trans (behind_get hid))
        subst ez
        refine ⟨rfl, _, rfl, _, rfl, md, _, rfl, .inr ⟨kvs, pk ((nxt W x.1 i).1, (nxt V x.2 i).1), pz, rd_same hmd ((s1.trans s2).trans s3), rfl, s3 _ _ hpz, rfl⟩, q2 _ _ (Same.refl _) ?_⟩
        rw [drel_isSome hM, decide_eq_true (hin i hid)]
      · intro H3 acc2 s3 hA2 hlen2 hval2
        have e2 := bls_of (f := fun _ => true) hlen2 hval2
        refine ⟨D2, _, rfl, SqL.of (by rw [hA2, e2]), ?_⟩
        rw [all_rg, decide_eq_true (fun _ _ => rfl)]
        exact k H3 ((s1.trans s2).trans s3)
theorem putAll_nd : ∀ (more kvs : List (List Key × V)), ((kvs ++ more).map (·.1)).Nodup → putAllT kvs more = kvs ++ more
  | [], kvs, _ => by simp [putAllT]
  | p :: r, kvs, h => by
    have h0 : valV kvs p.1 = none := by
      have hn : ¬ p.1 ∈ kvs.map (·.1) := by
        intro hm
        rw [List.map_append] at h
        exact (List.nodup_append.mp h).2.2 _ hm _ (List.mem_map.mpr ⟨p, by simp, rfl⟩) rfl
      unfold valV
      rw [List.find?_eq_none.mpr (fun y hy => by
        simp only [decide_eq_true_eq]
        intro e
        exact hn (List.mem_map.mpr ⟨y, hy, e⟩))]
      rfl
    show putAllT (putK kvs p.1 p.2) r = kvs ++ p :: r
    rw [putK_new _ h0, show (kvs ++ [(p.1, p.2)]) = kvs ++ [p] from rfl, putAll_nd r (kvs ++ [p]) (by rw [List.append_assoc]; exact h), List.append_assoc]
    rfl
/-- pairs as keys -/
def pkvs (Ps : List Pt) : List (List Key × V) := Ps.map fun x => (pk x, .bl true)
theorem pkvs_nd {Ps : List Pt} (h : Ps.Nodup) : ((pkvs Ps).map (·.1)).Nodup := by
  unfold pkvs
  rw [List.map_map]
  exact List.Pairwise.map _ (fun a b (hab : a ≠ b) e => hab (pk_inj e)) h
theorem pkvs_rel (Ps : List Pt) : MRel (pkvs Ps) (Ps.map fun x => (x, ())) := by
  refine paired_of (by unfold pkvs; simp) fun i y z hy hz => ?_
  obtain ⟨x, hx, rfl⟩ := map_get hy
  obtain ⟨x', hx', rfl⟩ := map_get hz
  rw [hx] at hx'
  cases hx'
  exact ⟨rfl, rfl⟩
theorem pfst (Ps : List Pt) : (Ps.map fun x => (x, ())).map (·.1) = Ps := by
  rw [List.map_map]
  exact List.map_id Ps
def spShowsPairing (lst : Bool) : Sp := fun vs H Q _ => ∃ (p : Addr) (W : Web) (rm : Nat → Addr) (en : Nat → Nat → Addr) (a : Nat) (p' : Addr) (V : Web) (rm' : Nat → Addr) (en' : Nat → Nat → Addr) (b : Nat) (q : Addr) (ys : List L2.V) (Ps : List Pt),
  vs = [.ref p, iv a, .ref p', iv b, .ref q] ∧ WebH H p W rm en ∧ WebH H p' V rm' en' ∧ Small W ∧ H q = some (if lst then .lst ys else .tup ys) ∧ Paired (PtV H) ys Ps ∧ PairOk W V a b Ps ∧ ∀ H', Same H H' → Q (.bl true) H'
abbrev N_shows_pairingL : List Str := ["one", "a", "other", "b", "pairs", "met", "pair"]
theorem sc_shows_pairingL : FnScope N_shows_pairingL ["one", "a", "other", "b", "pairs"] (defScope s_shows_pairing) := ⟨rfl, rfl, rfl, by decide +kernel, rfl, by decide +kernel, by decide +kernel⟩
theorem has_showpairsL (B : Bt mg) (T : Top K mg "shows_pairing" s_shows_pairing) (H_is_pair_of_ : Has P w K mg base "is_pair_of" ["one", "other", "thing"] 2 spPairOf) (H_goes_along_ : Has P w K mg base "goes_along" ["one", "other", "pair", "met"] 2 spGoes) :
    Has P w K mg base "shows_pairing" ["one", "a", "other", "b", "pairs"] 3 (spShowsPairing true) := by
  obtain ⟨f_is_pair_of_, fd_is_pair_of_, G_is_pair_of_, m_is_pair_of_, kp_is_pair_of_, b_is_pair_of_⟩ := H_is_pair_of_.ex
  obtain ⟨f_goes_along_, fd_goes_along_, G_goes_along_, m_goes_along_, kp_goes_along_, b_goes_along_⟩ := H_goes_along_.ex
  obtain ⟨f, fd, F, hm⟩ := T.ex
  refine ⟨f, fd, ?_, hm, F.kp, F.binds fun _ _ _ _ _ _ us hl => match us, hl with | [_, _, _, _, _], _ => rfl⟩
  refine F.ok sc_shows_pairingL (fun vs H Q E h => ?_) (fun cdv A outer s H vs Q E hr h => ?_)
  · obtain ⟨p, W, rm, en, a, p', V, rm', en', b, q, ys, Ps, rfl, _⟩ := h
    rfl
  · obtain ⟨p, W, rm, en, a, p', V, rm', en', b, q, ys, Ps, rfl, hW, hV, smW, hq, hys, hP, k⟩ := h
    have hq : H q = some (.lst ys) := hq
    refine ⟨_, (pss_cons (ps_if (PW.pt (pw_or (pt_not (pt_val (pe_callB (k_isiT K rfl) (by rfl) B.isinstance_ (by decide +kernel) (pa_cons (pv 4) (pa_cons (pe_tup (pa_cons (pe_bltn (v := .ty "tuple") (by rfl) B.tuple_ (by decide +kernel) rfl) (pa_cons (pe_bltn (v := .ty "list") (by rfl) B.list_ (by decide +kernel) rfl) pa_nil))) pa_nil))))) (pw_or1 (pt_not (pt_val (pe_callB (k_all K rfl rfl) (by rfl) B.all_ (by decide +kernel) (pa_cons (pe_lc (own := [("pair", 6)]) (g := gName 6) rfl sc_shows_pairingL.nd (pi_list (pv 4)) (blkOk_by (N := N_shows_pairingL) (sc := defScope s_shows_pairing) (by decide +kernel)) (fun _ _ _ _ _ => (pg_name (i := 6) sc_shows_pairingL.nd rfl (Or.inl rfl))) (fun _ _ _ _ _ => pts_nil) (fun _ _ _ _ _ => (pe_call G_is_pair_of_ (hr.mono (by decide)) (by rfl) m_is_pair_of_ kp_is_pair_of_ b_is_pair_of_ .nil pass0 (pa_cons (pv 0) (pa_cons (pv 2) (pa_cons (pv 6) pa_nil)))))) pa_nil))))))) (pss_one (ps_ret pe_bl)) pss_nil)
      (pss_cons (ps_set (i := 5) sc_shows_pairingL.nd rfl (Or.inr rfl) (pe_callTy (k_dictT K rfl rfl hr.units) (by rfl) B.dict_ (by decide +kernel) (pa_cons (pe_lc (own := [("pair", 6)]) (g := gName 6) rfl sc_shows_pairingL.nd (pi_list (pv 4)) (blkOk_by (N := N_shows_pairingL) (sc := defScope s_shows_pairing) (by decide +kernel)) (fun _ _ _ _ _ => (pg_name (i := 6) sc_shows_pairingL.nd rfl (Or.inl rfl))) (fun _ _ _ _ _ => pts_nil) (fun _ _ _ _ _ => (pe_tup (pa_cons (pe_callTy (k_tuple K rfl) (by rfl) B.tuple_ (by decide +kernel) (pa_cons (pv 6) pa_nil)) (pa_cons pe_bl pa_nil))))) pa_nil)))
      (pss_one (ps_ret (pe_and (pe_cmp (pc_din (hu_of hr) (pe_tup (pa_cons (pv 1) (pa_cons (pv 3) pa_nil))) (pv 5)) rfl) (pe_one (pe_callB (k_all K rfl rfl) (by rfl) B.all_ (by decide +kernel) (pa_cons (pe_lock (pe_lc (own := [("pair", 6)]) (g := gName 6) rfl sc_shows_pairingL.nd (pi_keys (pv 5)) (blkOk_by (N := N_shows_pairingL) (sc := defScope s_shows_pairing) (by decide +kernel)) (fun _ _ _ _ _ => (pg_name (i := 6) sc_shows_pairingL.nd rfl (Or.inl rfl))) (fun _ _ _ _ _ => pts_nil) (fun _ _ _ _ _ => (pe_call G_goes_along_ (hr.mono (by decide)) (by rfl) m_goes_along_ kp_goes_along_ b_goes_along_ .nil pass0 (pa_cons (pv 0) (pa_cons (pv 2) (pa_cons (pv 6) (pa_cons (pv 5) pa_nil)))))))) pa_nil)))))))), ?_⟩
    have hyl := paired_len hys
    have hPl := hP.len
    refine ⟨_, rfl, sz1000 (by show 2 ≤ 100000; decide), fun tp htp => ?_⟩
    have s1 := same_new (o := .tup [.ty "tuple", .ty "list"]) htp
    refine ⟨_, tp, _, _, _, true, rfl, upd_same, .cons (.ty _) (.cons (.ty _) .nil), .base (.lst (s1 _ _ hq)), isi_list, true, rfl, iteF ?_⟩
    refine ⟨_, rfl, q, rfl, ⟨_, SqL.of (s1 _ _ hq)⟩, fun D hD => lcP walk_list (fun _ _ z => z = .bl true) hD (by omega) (fun H' s => SqL.of (s _ _ (s1 _ _ hq))) (fun j z H' H'' _ r _ => r) (fun i Hi x Hx y => y_at y) ?_ ?_⟩
    · rintro i v Hi Hx Qc hi s2 _ ⟨rfl, hx⟩ q2
      obtain ⟨x, hx2, px, rfl, hpx⟩ := paired_get' hys hx
      have hm : x ∈ Ps := List.mem_of_getElem? hx2
      have s12 := s1.trans s2
      exact ⟨rfl, _, rfl, _, rfl, _, rfl, p, W, rm, en, p', V, rm', en', px, x, rfl, hW.tm (Tm.of s12), hV.tm (Tm.of s12), s12 _ _ hpx, hP.one x hm, hP.other x hm, fun H' s3 => q2 _ _ s3 rfl⟩
    intro H1 acc s2 hA hlen hval
    have e := bls_of (f := fun _ => true) hlen hval
    refine ⟨D, _, rfl, SqL.of (by rw [hA, e]), _, rfl, ?_⟩
    rw [all_rg, decide_eq_true (fun _ _ => rfl)]
    refine iteF ?_
    have s12 := s1.trans s2
    refine ⟨_, rfl, q, rfl, ⟨_, SqL.of (s12 _ _ hq)⟩, fun L hL => lcP walk_list (fun j H z => ∃ (pp b : Addr) (x : Pt), Ps[j]? = some x ∧ z = .ref pp ∧ H pp = some (.tup [.ref b, .bl true]) ∧ H b = some (.tup ((pk x).map kV))) hL (by omega) (fun H' s => SqL.of (s _ _ (s12 _ _ hq)))
      (fun j z H' H'' hA r k => by obtain ⟨pp, b, x, e1, e2, e3, e4⟩ := r; exact ⟨pp, b, x, e1, e2, r_tm hA k _ _ e3, r_tm hA k _ _ e4⟩) (fun i Hi x Hx y => y_at y) ?_ ?_⟩
    · rintro i v Hi Hx Qc hi s3 _ ⟨rfl, hx⟩ q2
      obtain ⟨x, hx2, px, rfl, hpx⟩ := paired_get' hys hx
      have s13 := s12.trans s3
      refine ⟨rfl, _, rfl, px, _, rfl, .inr ⟨SqT.of (s13 _ _ hpx), sz1000 (by show 2 ≤ 100000; decide), fun tp2 htp2 => q2 _ _ (same_new htp2) ⟨tp2, px, x, hx2, rfl, upd_same, same_new htp2 _ _ (s13 _ _ hpx)⟩⟩⟩
    intro H2 acc2 s3 hA2 hlen2 hval2
    have hpt : PairsT H2 acc2 (pkvs Ps) := by
      refine paired_of (by rw [hlen2, hyl]; unfold pkvs; simp) fun i y z hy hz => ?_
      obtain ⟨x', hx', rfl⟩ := map_get hz
      obtain ⟨pp, b, x, e1, e2, e3, e4⟩ := hval2 i y hy
      rw [e1] at hx'
      cases hx'
      exact ⟨pp, b, e2, e3, e4⟩
    refine ⟨L, acc2, pkvs Ps, rfl, SqL.of hA2, hpt, fun md hmd => ?_⟩
    rw [putAll_nd (pkvs Ps) [] (pkvs_nd hP.nd), List.nil_append]
    have s13 := s12.trans s3
    have s4 := same_upd (o := .dT (pkvs Ps)) s13 hmd
    have hin : ∀ x, x ∈ (Ps.map fun x => (x, ())).map (·.1) ↔ x ∈ Ps := fun x => by rw [pfst]
    refine ⟨_, rfl, _, rfl, sz1000 (by show 2 ≤ 100000; decide), fun kt hkt => ⟨_, rfl, md, _, rfl, DGet.t (k := pk (a, b)) (kvs := pkvs Ps) (by rw [upd_ne (ne_of_none upd_same hkt), upd_same]) upd_same, ?_⟩⟩
    rw [drel_isSome (pkvs_rel Ps), decide_eq_true ((hin _).mpr hP.has)]
    refine ⟨_, rfl, iteT ?_⟩
    have s5 := same_upd (o := .tup [iv a, iv b]) s4 hkt
    have nmk : md ≠ kt := ne_of_none upd_same hkt
    have hmd2 : upd (upd H2 md (.dT (pkvs Ps))) kt (.tup [iv a, iv b]) md = some (.dT (pkvs Ps)) := by rw [upd_ne nmk, upd_same]
    have hmdn : H md = none := s13.free hmd
    refine ⟨md, .dT (pkvs Ps), hmd2, trivial, fun od => ?_⟩
    have tmf : Tm (upd (upd H2 md (.dT (pkvs Ps))) kt (.tup [iv a, iv b])) (upd (upd (upd H2 md (.dT (pkvs Ps))) kt (.tup [iv a, iv b])) md (.frz od (.dT (pkvs Ps)))) := Tm.dT hmd2
    have tm5 := (Tm.of s5).trans tmf
    refine ⟨_, rfl, md, od, rfl, .inr ⟨pkvs Ps, upd_same, fun E hE => ?_⟩⟩
    refine lcP walk_keysT (fun _ _ z => z = .bl true) hE (by unfold pkvs; rw [List.length_map]; omega) (fun H' s => s _ _ upd_same) (fun j z H' H'' _ r _ => r) (fun i Hi x Hx y => by obtain ⟨rfl, _⟩ := y; exact Same.refl _) ?_ ?_
    · rintro i v Hi Hx Qc hi s6 _ ⟨rfl, kk, vv, px, hkk, rfl, hpx⟩ q2
      obtain ⟨x, hx, ex⟩ := map_get hkk
      cases ex
      have hm : x ∈ Ps := List.mem_of_getElem? hx
      have tm6 := tm5.trans (Tm.of s6)
      refine ⟨rfl, _, rfl, _, rfl, _, rfl, _, rfl, p, W, rm, en, p', V, rm', en', px, x, md, pkvs Ps, _, rfl, hW.tm tm6, hV.tm tm6, smW, hpx, hP.one x hm, hP.other x hm, hP.deg x hm, hP.came x hm, .inr ⟨od, s6 _ _ upd_same⟩, pkvs_rel Ps, fun d hd => (hin _).mpr (hP.next x hm d hd), fun H' s7 => q2 _ _ s7 rfl⟩
    · intro H3 acc3 s6 hA3 hlen3 hval3
      have e3 := bls_of (f := fun _ => true) hlen3 hval3
      have nE : E ≠ md := (ne_of_none (show upd (upd (upd H2 md (.dT (pkvs Ps))) kt (.tup [iv a, iv b])) md (.frz od (.dT (pkvs Ps))) md = _ from upd_same) hE).symm
      refine ⟨s6 _ _ upd_same, E, _, rfl, SqL.of (by rw [upd_ne nE, hA3, e3]), ?_⟩
      rw [all_rg, decide_eq_true (fun _ _ => rfl)]
      refine k _ fun c o hc => ?_
      have hcm : c ≠ md := ne_of_none hc hmdn
      rw [upd_ne hcm]
      refine s6 _ _ ?_
      rw [upd_ne hcm]
      exact s5 _ _ hc
abbrev N_shows_pairingT : List Str := ["one", "a", "other", "b", "pairs", "met", "pair"]
theorem sc_shows_pairingT : FnScope N_shows_pairingT ["one", "a", "other", "b", "pairs"] (defScope s_shows_pairing) := ⟨rfl, rfl, rfl, by decide +kernel, rfl, by decide +kernel, by decide +kernel⟩
theorem has_showpairsT (B : Bt mg) (T : Top K mg "shows_pairing" s_shows_pairing) (H_is_pair_of_ : Has P w K mg base "is_pair_of" ["one", "other", "thing"] 2 spPairOf) (H_goes_along_ : Has P w K mg base "goes_along" ["one", "other", "pair", "met"] 2 spGoes) :
    Has P w K mg base "shows_pairing" ["one", "a", "other", "b", "pairs"] 3 (spShowsPairing false) := by
  obtain ⟨f_is_pair_of_, fd_is_pair_of_, G_is_pair_of_, m_is_pair_of_, kp_is_pair_of_, b_is_pair_of_⟩ := H_is_pair_of_.ex
  obtain ⟨f_goes_along_, fd_goes_along_, G_goes_along_, m_goes_along_, kp_goes_along_, b_goes_along_⟩ := H_goes_along_.ex
  obtain ⟨f, fd, F, hm⟩ := T.ex
  refine ⟨f, fd, ?_, hm, F.kp, F.binds fun _ _ _ _ _ _ us hl => match us, hl with | [_, _, _, _, _], _ => rfl⟩
  refine F.ok sc_shows_pairingT (fun vs H Q E h => ?_) (fun cdv A outer s H vs Q E hr h => ?_)
  · obtain ⟨p, W, rm, en, a, p', V, rm', en', b, q, ys, Ps, rfl, _⟩ := h
    rfl
  · obtain ⟨p, W, rm, en, a, p', V, rm', en', b, q, ys, Ps, rfl, hW, hV, smW, hq, hys, hP, k⟩ := h
    have hq : H q = some (.tup ys) := hq
    refine ⟨_, (pss_cons (ps_if (PW.pt (pw_or (pt_not (pt_val (pe_callB (k_isiT K rfl) (by rfl) B.isinstance_ (by decide +kernel) (pa_cons (pv 4) (pa_cons (pe_tup (pa_cons (pe_bltn (v := .ty "tuple") (by rfl) B.tuple_ (by decide +kernel) rfl) (pa_cons (pe_bltn (v := .ty "list") (by rfl) B.list_ (by decide +kernel) rfl) pa_nil))) pa_nil))))) (pw_or1 (pt_not (pt_val (pe_callB (k_all K rfl rfl) (by rfl) B.all_ (by decide +kernel) (pa_cons (pe_lc (own := [("pair", 6)]) (g := gName 6) rfl sc_shows_pairingT.nd (pi_tup (pv 4)) (blkOk_by (N := N_shows_pairingT) (sc := defScope s_shows_pairing) (by decide +kernel)) (fun _ _ _ _ _ => (pg_name (i := 6) sc_shows_pairingT.nd rfl (Or.inl rfl))) (fun _ _ _ _ _ => pts_nil) (fun _ _ _ _ _ => (pe_call G_is_pair_of_ (hr.mono (by decide)) (by rfl) m_is_pair_of_ kp_is_pair_of_ b_is_pair_of_ .nil pass0 (pa_cons (pv 0) (pa_cons (pv 2) (pa_cons (pv 6) pa_nil)))))) pa_nil))))))) (pss_one (ps_ret pe_bl)) pss_nil)
      (pss_cons (ps_set (i := 5) sc_shows_pairingT.nd rfl (Or.inr rfl) (pe_callTy (k_dictT K rfl rfl hr.units) (by rfl) B.dict_ (by decide +kernel) (pa_cons (pe_lc (own := [("pair", 6)]) (g := gName 6) rfl sc_shows_pairingT.nd (pi_tup (pv 4)) (blkOk_by (N := N_shows_pairingT) (sc := defScope s_shows_pairing) (by decide +kernel)) (fun _ _ _ _ _ => (pg_name (i := 6) sc_shows_pairingT.nd rfl (Or.inl rfl))) (fun _ _ _ _ _ => pts_nil) (fun _ _ _ _ _ => (pe_tup (pa_cons (pe_callTy (k_tuple K rfl) (by rfl) B.tuple_ (by decide +kernel) (pa_cons (pv 6) pa_nil)) (pa_cons pe_bl pa_nil))))) pa_nil)))
      (pss_one (ps_ret (pe_and (pe_cmp (pc_din (hu_of hr) (pe_tup (pa_cons (pv 1) (pa_cons (pv 3) pa_nil))) (pv 5)) rfl) (pe_one (pe_callB (k_all K rfl rfl) (by rfl) B.all_ (by decide +kernel) (pa_cons (pe_lock (pe_lc (own := [("pair", 6)]) (g := gName 6) rfl sc_shows_pairingT.nd (pi_keys (pv 5)) (blkOk_by (N := N_shows_pairingT) (sc := defScope s_shows_pairing) (by decide +kernel)) (fun _ _ _ _ _ => (pg_name (i := 6) sc_shows_pairingT.nd rfl (Or.inl rfl))) (fun _ _ _ _ _ => pts_nil) (fun _ _ _ _ _ => (pe_call G_goes_along_ (hr.mono (by decide)) (by rfl) m_goes_along_ kp_goes_along_ b_goes_along_ .nil pass0 (pa_cons (pv 0) (pa_cons (pv 2) (pa_cons (pv 6) (pa_cons (pv 5) pa_nil)))))))) pa_nil)))))))), ?_⟩
    have hyl := paired_len hys
    have hPl := hP.len
    refine ⟨_, rfl, sz1000 (by show 2 ≤ 100000; decide), fun tp htp => ?_⟩
    have s1 := same_new (o := .tup [.ty "tuple", .ty "list"]) htp
    refine ⟨_, tp, _, _, _, true, rfl, upd_same, .cons (.ty _) (.cons (.ty _) .nil), .base (.tup (s1 _ _ hq)), isi_tuple, true, rfl, iteF ?_⟩
    refine ⟨_, rfl, q, rfl, ⟨_, SqT.of (s1 _ _ hq)⟩, fun D hD => lcP walk_tup (fun _ _ z => z = .bl true) hD (by omega) (fun H' s => SqT.of (s _ _ (s1 _ _ hq))) (fun j z H' H'' _ r _ => r) (fun i Hi x Hx y => y_at y) ?_ ?_⟩
    · rintro i v Hi Hx Qc hi s2 _ ⟨rfl, hx⟩ q2
      obtain ⟨x, hx2, px, rfl, hpx⟩ := paired_get' hys hx
      have hm : x ∈ Ps := List.mem_of_getElem? hx2
      have s12 := s1.trans s2
      exact ⟨rfl, _, rfl, _, rfl, _, rfl, p, W, rm, en, p', V, rm', en', px, x, rfl, hW.tm (Tm.of s12), hV.tm (Tm.of s12), s12 _ _ hpx, hP.one x hm, hP.other x hm, fun H' s3 => q2 _ _ s3 rfl⟩
    intro H1 acc s2 hA hlen hval
    have e := bls_of (f := fun _ => true) hlen hval
    refine ⟨D, _, rfl, SqL.of (by rw [hA, e]), _, rfl, ?_⟩
    rw [all_rg, decide_eq_true (fun _ _ => rfl)]
    refine iteF ?_
    have s12 := s1.trans s2
    refine ⟨_, rfl, q, rfl, ⟨_, SqT.of (s12 _ _ hq)⟩, fun L hL => lcP walk_tup (fun j H z => ∃ (pp b : Addr) (x : Pt), Ps[j]? = some x ∧ z = .ref pp ∧ H pp = some (.tup [.ref b, .bl true]) ∧ H b = some (.tup ((pk x).map kV))) hL (by omega) (fun H' s => SqT.of (s _ _ (s12 _ _ hq)))
      (fun j z H' H'' hA r k => by obtain ⟨pp, b, x, e1, e2, e3, e4⟩ := r; exact ⟨pp, b, x, e1, e2, r_tm hA k _ _ e3, r_tm hA k _ _ e4⟩) (fun i Hi x Hx y => y_at y) ?_ ?_⟩
    · rintro i v Hi Hx Qc hi s3 _ ⟨rfl, hx⟩ q2
      obtain ⟨x, hx2, px, rfl, hpx⟩ := paired_get' hys hx
      have s13 := s12.trans s3
      refine ⟨rfl, _, rfl, px, _, rfl, .inr ⟨SqT.of (s13 _ _ hpx), sz1000 (by show 2 ≤ 100000; decide), fun tp2 htp2 => q2 _ _ (same_new htp2) ⟨tp2, px, x, hx2, rfl, upd_same, same_new htp2 _ _ (s13 _ _ hpx)⟩⟩⟩
    intro H2 acc2 s3 hA2 hlen2 hval2
    have hpt : PairsT H2 acc2 (pkvs Ps) := by
      refine paired_of (by rw [hlen2, hyl]; unfold pkvs; simp) fun i y z hy hz => ?_
      obtain ⟨x', hx', rfl⟩ := map_get hz
      obtain ⟨pp, b, x, e1, e2, e3, e4⟩ := hval2 i y hy
      rw [e1] at hx'
      cases hx'
      exact ⟨pp, b, e2, e3, e4⟩
    refine ⟨L, acc2, pkvs Ps, rfl, SqL.of hA2, hpt, fun md hmd => ?_⟩
    rw [putAll_nd (pkvs Ps) [] (pkvs_nd hP.nd), List.nil_append]
    have s13 := s12.trans s3
    have s4 := same_upd (o := .dT (pkvs Ps)) s13 hmd
    have hin : ∀ x, x ∈ (Ps.map fun x => (x, ())).map (·.1) ↔ x ∈ Ps := fun x => by rw [pfst]
    refine ⟨_, rfl, _, rfl, sz1000 (by show 2 ≤ 100000; decide), fun kt hkt => ⟨_, rfl, md, _, rfl, DGet.t (k := pk (a, b)) (kvs := pkvs Ps) (by rw [upd_ne (ne_of_none upd_same hkt), upd_same]) upd_same, ?_⟩⟩
    rw [drel_isSome (pkvs_rel Ps), decide_eq_true ((hin _).mpr hP.has)]
    refine ⟨_, rfl, iteT ?_⟩
    have s5 := same_upd (o := .tup [iv a, iv b]) s4 hkt
    have nmk : md ≠ kt := ne_of_none upd_same hkt
    have hmd2 : upd (upd H2 md (.dT (pkvs Ps))) kt (.tup [iv a, iv b]) md = some (.dT (pkvs Ps)) := by rw [upd_ne nmk, upd_same]
    have hmdn : H md = none := s13.free hmd
    refine ⟨md, .dT (pkvs Ps), hmd2, trivial, fun od => ?_⟩
    have tmf : Tm (upd (upd H2 md (.dT (pkvs Ps))) kt (.tup [iv a, iv b])) (upd (upd (upd H2 md (.dT (pkvs Ps))) kt (.tup [iv a, iv b])) md (.frz od (.dT (pkvs Ps)))) := Tm.dT hmd2
    have tm5 := (Tm.of s5).trans tmf
    refine ⟨_, rfl, md, od, rfl, .inr ⟨pkvs Ps, upd_same, fun E hE => ?_⟩⟩
    refine lcP walk_keysT (fun _ _ z => z = .bl true) hE (by unfold pkvs; rw [List.length_map]; omega) (fun H' s => s _ _ upd_same) (fun j z H' H'' _ r _ => r) (fun i Hi x Hx y => by obtain ⟨rfl, _⟩ := y; exact Same.refl _) ?_ ?_
    · rintro i v Hi Hx Qc hi s6 _ ⟨rfl, kk, vv, px, hkk, rfl, hpx⟩ q2
      obtain ⟨x, hx, ex⟩ := map_get hkk
      cases ex
      have hm : x ∈ Ps := List.mem_of_getElem? hx
      have tm6 := tm5.trans (Tm.of s6)
      refine ⟨rfl, _, rfl, _, rfl, _, rfl, _, rfl, p, W, rm, en, p', V, rm', en', px, x, md, pkvs Ps, _, rfl, hW.tm tm6, hV.tm tm6, smW, hpx, hP.one x hm, hP.other x hm, hP.deg x hm, hP.came x hm, .inr ⟨od, s6 _ _ upd_same⟩, pkvs_rel Ps, fun d hd => (hin _).mpr (hP.next x hm d hd), fun H' s7 => q2 _ _ s7 rfl⟩
    · intro H3 acc3 s6 hA3 hlen3 hval3
      have e3 := bls_of (f := fun _ => true) hlen3 hval3
      have nE : E ≠ md := (ne_of_none (show upd (upd (upd H2 md (.dT (pkvs Ps))) kt (.tup [iv a, iv b])) md (.frz od (.dT (pkvs Ps))) md = _ from upd_same) hE).symm
      refine ⟨s6 _ _ upd_same, E, _, rfl, SqL.of (by rw [upd_ne nE, hA3, e3]), ?_⟩
      rw [all_rg, decide_eq_true (fun _ _ => rfl)]
      refine k _ fun c o hc => ?_
      have hcm : c ≠ md := ne_of_none hc hmdn
      rw [upd_ne hcm]
      refine s6 _ _ ?_
      rw [upd_ne hcm]
      exact s5 _ _ hc
end
end K18
/-! K18 mathematics, part B: numbers for looks. -/
namespace K18
open PySem PySem.Spec PyProof.Rows L2
section
variable {κ : Type} [DecidableEq κ]
def posOf : List κ → κ → Nat
  | [], _ => 0
  | u :: us, k => if u = k then 0 else posOf us k + 1
theorem pos_get : ∀ {us : List κ} {k : κ}, k ∈ us → us[posOf us k]? = some k
  | u :: us, k, h => by
    unfold posOf
    by_cases e : u = k
    · rw [if_pos e, e]; rfl
    · rw [if_neg e]
      rcases List.mem_cons.mp h with z | z
      · exact (e z.symm).elim
      · exact pos_get z
theorem pos_snoc : ∀ {us : List κ} {k : κ}, ¬ k ∈ us → posOf (us ++ [k]) k = us.length
  | [], k, _ => by show (if k = k then 0 else _) = 0; rw [if_pos rfl]
  | u :: us, k, h => by
    show (if u = k then 0 else posOf (us ++ [k]) k + 1) = us.length + 1
    rw [if_neg (fun e => h (by rw [e]; exact List.mem_cons_self)), pos_snoc fun z => h (List.mem_cons_of_mem _ z)]
theorem pos_old {x : κ} : ∀ {us : List κ} {k : κ}, k ∈ us → posOf (us ++ [x]) k = posOf us k
  | u :: us, k, h => by
    show (if u = k then 0 else posOf (us ++ [x]) k + 1) = (if u = k then 0 else posOf us k + 1)
    by_cases e : u = k
    · rw [if_pos e, if_pos e]
    · rw [if_neg e, if_neg e]
      rcases List.mem_cons.mp h with z | z
      · exact (e z.symm).elim
      · rw [pos_old z]
/-- numbers told apart as the keys are -/
structure NumOf (ks : List κ) (ns : List Nat) : Prop where
  len : ns.length = ks.length
  eq : ∀ {i j : Nat} {x y : κ} {m n : Nat}, ks[i]? = some x → ks[j]? = some y → ns[i]? = some m → ns[j]? = some n → (m = n ↔ x = y)
  lt : ∀ m ∈ ns, m < ks.length
structure NInv (val : κ → Option V) (us ks : List κ) (i : Nat) : Prop where
  val : ∀ k, val k = if k ∈ us then some (iv (posOf us k)) else none
  mem : ∀ j k, j < i → ks[j]? = some k → k ∈ us
  sub : us.length ≤ i
theorem NInv.start (ks : List κ) : NInv (fun _ => none) [] ks 0 := ⟨fun k => by simp, fun j k h => by omega, Nat.le_refl _⟩
theorem NInv.skip {val : κ → Option V} {us ks : List κ} {i : Nat} (h : NInv val us ks i) {k : κ} (hk : ks[i]? = some k) (hm : k ∈ us) : NInv val us ks (i + 1) :=
  ⟨h.val, fun j x hj hx => by
    by_cases e : j = i
    · subst e; rw [hk] at hx; cases hx; exact hm
    · exact h.mem j x (by omega) hx, Nat.le_succ_of_le h.sub⟩
theorem NInv.push {val val' : κ → Option V} {us ks : List κ} {i : Nat} (h : NInv val us ks i) {k : κ} (hk : ks[i]? = some k) (hm : ¬ k ∈ us) (hv : ∀ j, val' j = if j = k then some (iv us.length) else val j) : NInv val' (us ++ [k]) ks (i + 1) := by
  refine ⟨fun j => ?_, fun j x hj hx => ?_, ?_⟩
  · rw [hv]
    by_cases e : j = k
    · subst e
      rw [if_pos rfl, if_pos (List.mem_append_right _ List.mem_cons_self), pos_snoc hm]
    · rw [if_neg e, h.val]
      by_cases z : j ∈ us
      · rw [if_pos z, if_pos (List.mem_append_left _ z), pos_old z]
      · rw [if_neg z, if_neg (fun q => (List.mem_append.mp q).elim z fun q => e (List.mem_singleton.mp q))]
  · by_cases e : j = i
    · subst e; rw [hk] at hx; cases hx; exact List.mem_append_right _ List.mem_cons_self
    · exact List.mem_append_left _ (h.mem j x (by omega) hx)
  · rw [List.length_append]
    have := h.sub
    show us.length + 1 ≤ i + 1
    omega
theorem NInv.isSome {val : κ → Option V} {us ks : List κ} {i : Nat} (h : NInv val us ks i) (k : κ) : (val k).isSome = decide (k ∈ us) := by
  rw [h.val]
  by_cases z : k ∈ us
  · rw [if_pos z, decide_eq_true z]; rfl
  · rw [if_neg z, decide_eq_false z]; rfl
theorem NInv.at {val : κ → Option V} {us ks : List κ} {i : Nat} (h : NInv val us ks i) {j : Nat} {k : κ} (hj : j < i) (hk : ks[j]? = some k) : val k = some (iv (posOf us k)) := by
  rw [h.val, if_pos (h.mem j k hj hk)]
theorem pos_lt {us : List κ} {k : κ} (h : k ∈ us) : posOf us k < us.length := by
  have := pos_get h
  exact (List.getElem?_eq_some_iff.mp this).1
theorem NInv.done {val : κ → Option V} {us ks : List κ} (h : NInv val us ks ks.length) : NumOf ks (ks.map (posOf us)) := by
  have hm : ∀ j k, ks[j]? = some k → k ∈ us := fun j k e => h.mem j k (List.getElem?_eq_some_iff.mp e).1 e
  refine ⟨by simp, fun {i j x y m n} hx hy h1 h2 => ?_, fun m hm2 => ?_⟩
  · obtain ⟨x', e1, rfl⟩ := map_get h1
    obtain ⟨y', e2, rfl⟩ := map_get h2
    rw [hx] at e1; cases e1
    rw [hy] at e2; cases e2
    constructor
    · intro e
      have a := pos_get (hm _ _ hx)
      have b := pos_get (hm _ _ hy)
      rw [e, b] at a
      exact (Option.some.inj a).symm
    · intro e; rw [e]
  · obtain ⟨k, hk, rfl⟩ := List.mem_map.mp hm2
    obtain ⟨j, hj⟩ := List.mem_iff_getElem?.mp hk
    have := pos_lt (hm j k hj)
    have := h.sub
    omega
end
/-! ### numbers for rooms -/
def nn (ns : List Nat) (i : Nat) : Nat := ns.getD i 0
theorem nn_get {ns : List Nat} {i : Nat} (h : i < ns.length) : ns[i]? = some (nn ns i) := by
  unfold nn
  rw [List.getD_eq_getElem?_getD, List.getElem?_eq_getElem h]; rfl
theorem nn_of {ns : List Nat} {i m : Nat} (h : ns[i]? = some m) : nn ns i = m := by
  unfold nn
  rw [List.getD_eq_getElem?_getD, h]; rfl
/-- what a room looks like, its doors' numbers told -/
def fkey (W : Web) (ns : List Nat) (r : Nat) : NestedKey := .tup [.num (nn ns r), .tup ((List.range (deg W r)).map fun d => .tup [.num (nxt W r d).2, .num (nn ns (nxt W r d).1)])]
theorem nest_eq {a a' b b' : NestedKey} (h : NestedKey.tup [a, b] = .tup [a', b']) : a = a' ∧ b = b' := by
  injection h with h
  injection h with h1 h
  injection h with h2 h
  exact ⟨h1, h2⟩
theorem fkey_inj {W : Web} {ns : List Nat} {r s : Nat} : fkey W ns r = fkey W ns s ↔ nn ns r = nn ns s ∧ deg W r = deg W s ∧ ∀ d, d < deg W r → (nxt W r d).2 = (nxt W s d).2 ∧ nn ns (nxt W r d).1 = nn ns (nxt W s d).1 := by
  constructor
  · intro h
    obtain ⟨h1, h2⟩ := nest_eq h
    injection h1 with h1
    injection h2 with h2
    have hd : deg W r = deg W s := by
      have := congrArg List.length h2
      simpa using this
    refine ⟨by omega, hd, fun d hdl => ?_⟩
    have h3 : ((List.range (deg W r)).map fun d => NestedKey.tup [.num (nxt W r d).2, .num (nn ns (nxt W r d).1)])[d]? = ((List.range (deg W s)).map fun d => NestedKey.tup [.num (nxt W s d).2, .num (nn ns (nxt W s d).1)])[d]? := congrArg (fun l => l[d]?) h2
    rw [rg_get hdl, rg_get (by rw [← hd]; exact hdl)] at h3
    injection h3 with h3
    obtain ⟨h4, h5⟩ := nest_eq h3
    injection h4 with h4
    injection h5 with h5
    exact ⟨by omega, by omega⟩
  · rintro ⟨h1, h2, h3⟩
    unfold fkey
    rw [h1, ← h2]
    congr 3
    refine congrArg NestedKey.tup (List.map_congr_left fun d hd => ?_)
    obtain ⟨e1, e2⟩ := h3 d (List.mem_range.mp hd)
    rw [e1, e2]
theorem depthAll_le {n : Nat} : ∀ {ks : List NestedKey}, (∀ k ∈ ks, k.depth ≤ n) → NestedKey.depthAll ks ≤ n
  | [], _ => by rw [NestedKey.depthAll]; omega
  | k :: ks, h => by
    rw [NestedKey.depthAll]
    have h1 := h k List.mem_cons_self
    have h2 := depthAll_le fun k hk => h k (List.mem_cons_of_mem _ hk)
    omega
theorem fkey_depth (W : Web) (ns : List Nat) (r : Nat) : (fkey W ns r).depth ≤ 8 := by
  unfold fkey
  rw [NestedKey.depth]
  have : NestedKey.depthAll [.num (nn ns r), .tup ((List.range (deg W r)).map fun d => .tup [.num (nxt W r d).2, .num (nn ns (nxt W r d).1)])] ≤ 7 := by
    refine depthAll_le fun k hk => ?_
    rcases List.mem_cons.mp hk with e | hk
    · subst e; rw [NestedKey.depth]; omega
    · have e := List.mem_singleton.mp hk
      subst e
      rw [NestedKey.depth]
      have : NestedKey.depthAll ((List.range (deg W r)).map fun d => .tup [.num (nxt W r d).2, .num (nn ns (nxt W r d).1)]) ≤ 6 := by
        refine depthAll_le fun k hk => ?_
        obtain ⟨d, _, rfl⟩ := List.mem_map.mp hk
        rw [NestedKey.depth]
        have : NestedKey.depthAll [.num (nxt W r d).2, .num (nn ns (nxt W r d).1)] ≤ 5 := by
          refine depthAll_le fun k hk => ?_
          rcases List.mem_cons.mp hk with e | hk
          · subst e; rw [NestedKey.depth]; omega
          · have e := List.mem_singleton.mp hk
            subst e; rw [NestedKey.depth]; omega
        omega
      omega
  omega
/-- numbers as rooms are alike by ways of so many doors -/
structure KindN (W : Web) (k : Nat) (ns : List Nat) : Prop where
  len : ns.length = W.length
  eq : ∀ r s, r < W.length → s < W.length → (nn ns r = nn ns s ↔ L0 W k r s)
  lt : ∀ m ∈ ns, m < W.length
theorem KindN.start {W : Web} {ns : List Nat} (h : NumOf ((List.range W.length).map fun r => deg W r) ns) : KindN W 0 ns := by
  have hl : ns.length = W.length := by rw [h.len]; simp
  refine ⟨hl, fun r s hr hs => ?_, fun m hm => by have := h.lt m hm; simpa using this⟩
  exact h.eq (rg_get hr) (rg_get hs) (nn_get (by omega)) (nn_get (by omega))
theorem KindN.next {W : Web} (cW : Closed W) {k : Nat} {ns ms : List Nat} (h : KindN W k ns) (g : NumOf ((List.range W.length).map fun r => fkey W ns r) ms) : KindN W (k + 1) ms := by
  have hl : ms.length = W.length := by rw [g.len]; simp
  refine ⟨hl, fun r s hr hs => ?_, fun m hm => by have := g.lt m hm; simpa using this⟩
  rw [g.eq (rg_get hr) (rg_get hs) (nn_get (by omega)) (nn_get (by omega)), fkey_inj]
  constructor
  · rintro ⟨h1, h2, h3⟩
    refine ⟨h2, fun d hd => ?_⟩
    obtain ⟨e1, e2⟩ := h3 d hd
    have hx := (h.eq _ _ (cW.lt r d hd) (cW.lt s d (by rw [← h2]; exact hd))).mp e2
    refine ⟨?_, hx⟩
    unfold sight
    rw [e1, hx.deg]
    simp
  · intro hx
    refine ⟨(h.eq r s hr hs).mpr hx.down, hx.1, fun d hd => ?_⟩
    obtain ⟨e1, e2⟩ := hx.2 d hd
    unfold sight at e1
    injection e1 with e1 _
    exact ⟨e1, (h.eq _ _ (cW.lt r d hd) (cW.lt s d (by rw [← hx.1]; exact hd))).mpr e2⟩
theorem KindN.stay {W : Web} (cW : Closed W) {k m : Nat} {ns : List Nat} (h : KindN W k ns) (g : KindN W (k + 1) ns) (hm : k ≤ m) : KindN W m ns := by
  refine ⟨h.len, fun r s hr hs => ?_, h.lt⟩
  have st : Stab W k := fun r s hr hs x => (g.eq r s hr hs).mp ((h.eq r s hr hs).mpr x)
  rw [h.eq r s hr hs]
  constructor
  · intro x
    have := stab_all cW st (m - k) r s hr hs x
    rwa [show k + (m - k) = m by omega] at this
  · exact fun x => x.le hm
end K18
namespace K18
open PySem PySem.Spec PyProof.Rows L2
section
variable {P : Program} {w : World} {K : PySem.W.Frag} {mg : Str → Option Value} {base : Heap}
/-! ### comprehensions whose items are new lists; with a test -/
theorem lcFresh {J : It} {n : Nat} {G : Hp → Prop} {Y : Nat → Hp → V → Hp → Prop} (wk : Walk J n G Y) (C : Nat → List V) {g : TG} {te : TE} {vs : List Nat} {σ : L2.St} {H1 : Hp} {D : Addr} {Qd : Hp → Prop}
    (hD : H1 D = none) (hn : n ≤ 90000) (hG : ∀ H', Same H1 H' → G H') (hY : ∀ i Hi x Hx, Y i Hi x Hx → Same Hi Hx)
    (hs : ∀ i x Hi Hx (Qc : VK), i < n → Same H1 Hi → Y i Hi x Hx → (∀ a Hy, Same Hx Hy → Hx a = none → Hy a = some (.lst (C i)) → Qc (.ref a) Hy) → g x (wipe σ vs) Hx fun σ2 H2 => wipe σ2 vs = wipe σ vs ∧ te σ2 H2 Qc)
    (hd : ∀ (H' : Hp) (as : List Addr), Same H1 H' → H' D = some (.lst (as.map .ref)) → as.length = n → as.Nodup → (∀ j a, as[j]? = some a → H' a = some (.lst (C j)) ∧ H1 a = none ∧ a ≠ D) → Qd H') :
    ∃ W : Nat → Nat → Hp → Prop, (∃ m, W 0 m (upd H1 D (.lst []))) ∧ ∀ i m H, W i m H →
      (J.stop i H ∧ Qd H) ∨ (J.go i H ∧ ∃ Nx : Hp → Prop, (∀ H', Nx H' → ∃ m', m' < m ∧ W (i + 1) m' H') ∧ ∀ x H', J.yld i H x H' → g x (wipe σ vs) H' fun σ2 H2 => wipe σ2 vs = wipe σ vs ∧ tYes σ2 H2 fun b H3 =>
        if b = true then te σ2 H3 fun y H4 => ∃ acc, H4 D = some (.lst acc) ∧ acc.length < sizeLine ∧ Nx (upd H4 D (.lst (acc ++ [y]))) else Nx H3) := by
  refine lc_it wk (fun i H' => Same H1 H' ∧ ∃ as : List Addr, H' D = some (.lst (as.map .ref)) ∧ as.length = i ∧ as.Nodup ∧ ∀ j a, as[j]? = some a → H' a = some (.lst (C j)) ∧ H1 a = none ∧ a ≠ D) ⟨same_new hD, [], upd_same, rfl, List.nodup_nil, fun j z h => by simp at h⟩ (fun i H' _ p => hG H' p.1) ?_ ?_
  · rintro i x Hi Hx hi ⟨s1, as, a1, a2, a3, a4⟩ y
    have s2 := hY i Hi x Hx y
    have eqf : ∀ (Qc : VK) (Z : Hp → Prop), (fun (σ2 : L2.St) (H2 : Hp) => wipe σ2 vs = wipe σ vs ∧ tYes σ2 H2 fun b H3 => if b = true then te σ2 H3 Qc else Z H3) = fun σ2 H2 => wipe σ2 vs = wipe σ vs ∧ te σ2 H2 Qc := fun Qc Z => by
      funext σ2 H2
      show (wipe σ2 vs = wipe σ vs ∧ if true = true then te σ2 H2 Qc else Z H2) = _
      rw [if_pos rfl]
    rw [eqf]
    refine hs i x Hi Hx _ hi s1 y fun a Hy s3 ha ha2 => ?_
    have aD : Hy D = some (.lst (as.map .ref)) := s3 _ _ (s2 _ _ a1)
    have ne : a ≠ D := (ne_of_none (s2 _ _ a1) ha).symm
    have s123 := (s1.trans s2).trans s3
    refine ⟨as.map .ref, aD, by rw [List.length_map]; exact sl1000 (by omega), same_mut s123 hD, as ++ [a], by rw [upd_same, List.map_append]; rfl, by rw [List.length_append, a2]; rfl, ?_, fun j z hz => ?_⟩
    · refine List.nodup_append.mpr ⟨a3, by simp, fun u hu v hv e => ?_⟩
      have e2 := List.mem_singleton.mp hv
      subst e2; subst e
      obtain ⟨j, hj⟩ := List.mem_iff_getElem?.mp hu
      have := s2 _ _ (a4 j u hj).1
      rw [ha] at this; cases this
    · rcases snoc_get hz with hz | ⟨ej, ez⟩
      · obtain ⟨b1, b2, b3⟩ := a4 j z hz
        exact ⟨by rw [upd_ne b3]; exact s3 _ _ (s2 _ _ b1), b2, b3⟩
      · subst ej; subst ez
        exact ⟨by rw [upd_ne ne, a2]; exact ha2, s1.free (s2.free ha), ne⟩
  · rintro H' ⟨s1, as, a1, a2, a3, a4⟩
    exact hd H' as s1 a1 a2 a3 a4
theorem lcFlt {J : It} {n : Nat} {G : Hp → Prop} {Y : Nat → Hp → V → Hp → Prop} (wk : Walk J n G Y) (pr : Nat → Bool) (f : Nat → Nat) {g : TG} {tt : TT} {te : TE} {vs : List Nat} {σ : L2.St} {H1 : Hp} {D : Addr} {Qd : Hp → Prop}
    (hD : H1 D = none) (hn : n ≤ 90000) (hG : ∀ H', Same H1 H' → G H') (hY : ∀ i Hi x Hx, Y i Hi x Hx → Same Hi Hx)
    (hs : ∀ i x Hi Hx (Qc : VK) (Qn : Hp → Prop), i < n → Same H1 Hi → Y i Hi x Hx → (pr i = true → ∀ Hy, Same Hx Hy → Qc (iv (f i)) Hy) → (pr i = false → ∀ Hy, Same Hx Hy → Qn Hy) → g x (wipe σ vs) Hx fun σ2 H2 => wipe σ2 vs = wipe σ vs ∧ tt σ2 H2 fun b H3 => if b = true then te σ2 H3 Qc else Qn H3)
    (hd : ∀ H', Same H1 H' → H' D = some (.lst ((((List.range n).filter pr).map f).map iv)) → Qd H') :
    ∃ W : Nat → Nat → Hp → Prop, (∃ m, W 0 m (upd H1 D (.lst []))) ∧ ∀ i m H, W i m H →
      (J.stop i H ∧ Qd H) ∨ (J.go i H ∧ ∃ Nx : Hp → Prop, (∀ H', Nx H' → ∃ m', m' < m ∧ W (i + 1) m' H') ∧ ∀ x H', J.yld i H x H' → g x (wipe σ vs) H' fun σ2 H2 => wipe σ2 vs = wipe σ vs ∧ tt σ2 H2 fun b H3 =>
        if b = true then te σ2 H3 fun y H4 => ∃ acc, H4 D = some (.lst acc) ∧ acc.length < sizeLine ∧ Nx (upd H4 D (.lst (acc ++ [y]))) else Nx H3) := by
  refine lc_it wk (fun i H' => Same H1 H' ∧ H' D = some (.lst ((((List.range i).filter pr).map f).map iv))) ⟨same_new hD, upd_same⟩ (fun i H' _ p => hG H' p.1) ?_ (fun H' p => hd H' p.1 p.2)
  rintro i x Hi Hx hi ⟨s1, a1⟩ y
  have s2 := hY i Hi x Hx y
  refine hs i x Hi Hx _ _ hi s1 y (fun hp Hy s3 => ⟨_, s3 _ _ (s2 _ _ a1), ?_, same_mut ((s1.trans s2).trans s3) hD, ?_⟩) (fun hp Hy s3 => ⟨(s1.trans s2).trans s3, ?_⟩)
  · rw [List.length_map, List.length_map]
    have := List.length_filter_le pr (List.range i)
    rw [List.length_range] at this
    exact sl1000 (by omega)
  · rw [upd_same, List.range_succ, List.filter_append, List.map_append, List.map_append]
    simp [hp]
  · rw [s3 _ _ (s2 _ _ a1), List.range_succ, List.filter_append]
    simp [hp]
end
end K18
namespace K18
open PySem PySem.Spec PyProof.Rows L2
section
variable {P : Program} {w : World} {K : PySem.W.Frag} {mg : Str → Option Value} {base : Heap}
/-! numbered_looks, finer_looks, alike_by, kinds_by, kinds -/
abbrev N_numbered_looksK : List Str := ["looks", "numbers", "look"]
theorem sc_numbered_looksK : FnScope N_numbered_looksK ["looks"] (defScope s_numbered_looks) := ⟨rfl, rfl, rfl, by decide +kernel, rfl, by decide +kernel, by decide +kernel⟩
def spNumK : Sp := fun vs H Q _ => ∃ (q : Addr) (ks : List Nat), vs = [.ref q] ∧ H q = some (.lst (ks.map iv)) ∧ ks.length ≤ 1000 ∧ ∀ D H' ns, Same H H' → H D = none → H' D = some (.lst (ns.map iv)) → NumOf ks ns → Q (.ref D) H'
theorem has_numK (B : Bt mg) (T : Top K mg "numbered_looks" s_numbered_looks) : Has P w K mg base "numbered_looks" ["looks"] 1 spNumK := by
  obtain ⟨f, fd, F, hm⟩ := T.ex
  refine ⟨f, fd, ?_, hm, F.kp, F.binds fun _ _ _ _ _ _ us hl => match us, hl with | [_], _ => rfl⟩
  refine F.ok sc_numbered_looksK (fun vs H Q E h => ?_) (fun cdv A outer s H vs Q E hr h => ?_)
  · obtain ⟨q, ks, rfl, _⟩ := h
    rfl
  · obtain ⟨q, ks, rfl, hq, hl, k⟩ := h
    refine ⟨_, (pss_cons (ps_set (i := 1) sc_numbered_looksK.nd rfl (Or.inr rfl) pe_dnewK)
      (pss_cons (ps_for PassesOwn.never rfl (pi_list (pv 0)) (pg_name (i := 2) sc_numbered_looksK.nd rfl (Or.inl rfl))
      (pss_one (ps_if (pt_cmp (pc_dnotin (hu_of hr) (pv 2) (pv 1))) (pss_one (ps_asg (pe_callB call_lenD (by rfl) B.len_ PySem.boot_len (pa_cons (pv 1) pa_nil)) (pg_sub (pv 1) (pv 2) (set_dict (hu_of hr))))) pss_nil)))
      (pss_one (ps_ret (pe_lc (own := [("look", 2)]) (g := gName 2) rfl sc_numbered_looksK.nd (pi_list (pv 0)) (blkOk_by (N := N_numbered_looksK) (sc := defScope s_numbered_looks) (by decide +kernel)) (fun _ _ _ _ _ => (pg_name (i := 2) sc_numbered_looksK.nd rfl (Or.inl rfl))) (fun _ _ _ _ _ => pts_nil) (fun _ _ _ _ _ => (pe_dget (hu_of hr) (pv 1) (pv 2) (fun _ _ => rfl)))))))), ?_⟩
    refine fun nd hnd => ?_
    have s0 := same_new (o := .dK []) hnd
    refine ⟨_, rfl, q, rfl, ⟨_, SqL.of (s0 _ _ hq)⟩, for_list (K := K) (a := q) (xs := ks.map iv) (fun i σ H' => ∃ (kvs : List (Key × L2.V)) (us : List Nat) (lv : Option L2.V), σ = [some (.ref q), some (.ref nd), lv] ∧ Same H H' ∧ H' nd = some (.dK kvs) ∧ kvs.length = us.length ∧ NInv (fun j : Nat => valV kvs (.inl (j : Int))) us ks i)
      ⟨[], [], none, rfl, s0, upd_same, rfl, NInv.start ks⟩ (fun i σ H' _ ⟨_, _, _, _, s, _⟩ => SqL.of (s _ _ hq)) ?_ ?_⟩
    · rintro i v σ H' hi ⟨kvs, us, lv, rfl, s1, hd, hkl, hI⟩
      obtain ⟨x, hx, rfl⟩ := map_get hi
      have hsub := hI.sub
      have hil := len_lt hx
      refine ⟨_, rfl, _, rfl, nd, _, rfl, DGet.k (k := .inl (x : Int)) hd, _, rfl, ?_⟩
      rw [hI.isSome x]
      refine ite2 (fun e => ?_) (fun e => ?_)
      · have hm : ¬ x ∈ us := fun z => by rw [decide_eq_true z] at e; cases e
        have hv : valV kvs (.inl (x : Int)) = none := by rw [hI.val x, if_neg hm]
        refine ⟨_, rfl, nd, kvs, rfl, hd, _, rfl, _, rfl, nd, _, rfl, DPut.k (k := .inl (x : Int)) hd (sl1000 (by omega)), ?_⟩
        refine ⟨putK kvs (.inl (x : Int)) (.int (kvs.length : Int)), us ++ [x], _, rfl, same_mut s1 hnd, upd_same, ?_, hI.push hx hm fun j => ?_⟩
        · rw [putK_new _ hv, List.length_append, List.length_append, hkl]; rfl
        · rw [valV_put, hkl]
          by_cases e2 : j = x
          · subst e2; rw [if_pos rfl, if_pos rfl]
          · rw [if_neg e2, if_neg (fun z => e2 (by injection z with z; omega))]
      · have hm : x ∈ us := by
          by_cases z : x ∈ us
          · exact z
          · rw [decide_eq_false z] at e; exact (e rfl).elim
        exact ⟨kvs, us, _, rfl, s1, hd, hkl, hI.skip hx hm⟩
    · rintro σ H' ⟨kvs, us, lv, rfl, s1, hd, hkl, hI⟩
      rw [List.length_map] at hI
      refine ⟨_, rfl, q, rfl, ⟨_, SqL.of (s1 _ _ hq)⟩, fun D hD => lcP walk_list (fun j H z => z = iv ((ks.map (posOf us)).getD j 0)) hD (by rw [List.length_map]; omega) (fun H' s => SqL.of (s _ _ (s1 _ _ hq))) (fun j z H' H'' _ r _ => r) (fun i Hi x Hx y => y_at y) ?_ ?_⟩
      · rintro i v Hi Hx Qc hi s2 _ ⟨rfl, hx⟩ q2
        obtain ⟨x, hx2, rfl⟩ := map_get hx
        have hv := hI.at (len_lt hx2) hx2
        refine ⟨rfl, _, rfl, _, rfl, nd, _, rfl, hv ▸ DGet.k (k := .inl (x : Int)) (s2 _ _ hd), q2 _ _ (Same.refl _) ?_⟩
        rw [List.getD_eq_getElem?_getD, get_map hx2]
        rfl
      · intro H2 acc s2 hA hlen hval
        rw [List.length_map] at hlen
        have e : acc = (ks.map (posOf us)).map iv := by
          have := ivs_of (f := fun j => (ks.map (posOf us)).getD j 0) hlen hval
          rw [this]
          congr 1
          apply List.ext_getElem?
          intro j
          by_cases hj : j < ks.length
          · rw [rg_get hj, List.getD_eq_getElem?_getD, List.getElem?_eq_getElem (by rw [List.length_map]; exact hj)]; rfl
          · rw [List.getElem?_eq_none (by simp; omega), List.getElem?_eq_none (by simp; omega)]
        exact k D H2 _ (s1.trans s2) (s1.free hD) (by rw [hA, e]) hI.done
theorem valN_snoc {kvs : NEs} {k j : NestedKey} {b : Addr} {v : V} (h : valN kvs k = none) : valN (kvs ++ [(k, b, v)]) j = if j = k then some v else valN kvs j := by
  unfold valN at *
  rw [List.find?_append]
  by_cases e : j = k
  · subst e
    have h0 : (kvs.find? fun e => decide (e.1 = j)) = none := by simpa using h
    rw [h0, if_pos rfl]
    simp
  · rw [if_neg e]
    cases hf : kvs.find? fun e => decide (e.1 = j) with
    | none => simp [Ne.symm e]
    | some z => rfl
/-- a look as a value -/
def NKV (H : Hp) (v : V) (k : NestedKey) : Prop := NKey H k v ∧ (∃ b, v = .ref b) ∧ k.depth ≤ 8
theorem NKV.tm {H H' : Hp} {v : V} {k : NestedKey} (h : NKV H v k) (t : Tm H H') : NKV H' v k := ⟨NKey.mono t _ _ h.1, h.2⟩
theorem NStand.tm {H H' : Hp} {kvs : NEs} (h : NStand H kvs) (t : Tm H H') : NStand H' kvs := fun e he => ⟨NKey.mono t _ _ (h e he).1, (h e he).2⟩
theorem Tm.ext {H : Hp} {p : Addr} {o : HO} {kvs : NEs} (h : H p = some (NDict P w p kvs)) : Tm H (upd H p o) := fun b xs e => by rw [upd_ne (ne_of e h (fun z => nomatch z))]; exact e
abbrev N_numbered_looksN : List Str := ["looks", "numbers", "look"]
theorem sc_numbered_looksN : FnScope N_numbered_looksN ["looks"] (defScope s_numbered_looks) := ⟨rfl, rfl, rfl, by decide +kernel, rfl, by decide +kernel, by decide +kernel⟩
def spNumN : Sp := fun vs H Q _ => ∃ (q : Addr) (ys : List L2.V) (ks : List NestedKey), vs = [.ref q] ∧ H q = some (.lst ys) ∧ Paired (NKV H) ys ks ∧ ks.length ≤ 1000 ∧ ∀ D H' ns, Same H H' → H D = none → H' D = some (.lst (ns.map iv)) → NumOf ks ns → Q (.ref D) H'
theorem has_numN (B : Bt mg) (T : Top K mg "numbered_looks" s_numbered_looks) : Has P w K mg base "numbered_looks" ["looks"] 1 spNumN := by
  obtain ⟨f, fd, F, hm⟩ := T.ex
  refine ⟨f, fd, ?_, hm, F.kp, F.binds fun _ _ _ _ _ _ us hl => match us, hl with | [_], _ => rfl⟩
  refine F.ok sc_numbered_looksN (fun vs H Q E h => ?_) (fun cdv A outer s H vs Q E hr h => ?_)
  · obtain ⟨q, ys, ks, rfl, _⟩ := h
    rfl
  · obtain ⟨q, ys, ks, rfl, hq, hys, hl, k⟩ := h
    refine ⟨_, (pss_cons (ps_set (i := 1) sc_numbered_looksN.nd rfl (Or.inr rfl) (k_dnewN P w rfl rfl))
      (pss_cons (ps_for PassesOwn.never rfl (pi_list (pv 0)) (pg_name (i := 2) sc_numbered_looksN.nd rfl (Or.inl rfl))
      (pss_one (ps_if (pt_cmpR (k_notInN P w rfl rfl hr.units) (pv 2) (pv 1) (by rfl)) (pss_one (ps_asg (pe_callB (k_lenN P w rfl rfl) (by rfl) B.len_ PySem.boot_len (pa_cons (pv 1) pa_nil)) (pg_sub (pv 1) (pv 2) (k_setN P w rfl rfl hr.units)))) pss_nil)))
      (pss_one (ps_ret (pe_lc (own := [("look", 2)]) (g := gName 2) rfl sc_numbered_looksN.nd (pi_list (pv 0)) (blkOk_by (N := N_numbered_looksN) (sc := defScope s_numbered_looks) (by decide +kernel)) (fun _ _ _ _ _ => (pg_name (i := 2) sc_numbered_looksN.nd rfl (Or.inl rfl))) (fun _ _ _ _ _ => pts_nil) (fun _ _ _ _ _ => (k_dgetN P w rfl rfl hr.units (pv 1) (pv 2) (fun _ _ => rfl)))))))), ?_⟩
    have hyl := paired_len hys
    refine fun nd hnd => ?_
    have s0 := same_new (o := NDict P w nd []) hnd
    refine ⟨_, rfl, q, rfl, ⟨_, SqL.of (s0 _ _ hq)⟩, for_list (K := K) (a := q) (xs := ys) (fun i σ H' => ∃ (kvs : NEs) (us : List NestedKey) (lv : Option L2.V), σ = [some (.ref q), some (.ref nd), lv] ∧ Same H H' ∧ H' nd = some (NDict P w nd kvs) ∧ NStand H' kvs ∧ kvs.length = us.length ∧ NInv (valN kvs) us ks i)
      ⟨[], [], none, rfl, s0, upd_same, (show NStand _ [] from fun e he => nomatch he), rfl, NInv.start ks⟩ (fun i σ H' _ ⟨_, _, _, _, s, _⟩ => SqL.of (s _ _ hq)) ?_ ?_⟩
    · rintro i v σ H' hi ⟨kvs, us, lv, rfl, s1, hd, hst, hkl, hI⟩
      obtain ⟨x, hx, hxk, ⟨xb, rfl⟩, hx8⟩ := paired_get' hys hi
      have hxk := NKey.mono (Tm.of s1) _ _ hxk
      have hsub := hI.sub
      have hil := len_lt hx
      refine ⟨_, rfl, _, rfl, nd, xb, kvs, x, rfl, rfl, hd, hst, hxk, hx8, _, rfl, ?_⟩
      rw [hI.isSome x]
      refine ite2 (fun e => ?_) (fun e => ?_)
      · have hm : ¬ x ∈ us := fun z => by rw [decide_eq_true z] at e; cases e
        have hv : valN kvs x = none := by rw [hI.val x, if_neg hm]
        refine ⟨_, rfl, nd, kvs, rfl, hd, hst, _, rfl, _, rfl, nd, xb, kvs, x, rfl, rfl, hd, hst, hxk, hx8, hv, sl1000 (by omega), ?_⟩
        have tm := Tm.ext (o := NDict P w nd (kvs ++ [(x, xb, .int (kvs.length : Int))])) hd
        refine ⟨kvs ++ [(x, xb, .int (kvs.length : Int))], us ++ [x], _, rfl, same_mut s1 hnd, upd_same, fun e he => ?_, ?_, hI.push hx hm fun j => ?_⟩
        · rcases List.mem_append.mp he with he | he
          · exact hst.tm tm e he
          · have := List.mem_singleton.mp he
            subst this
            exact ⟨NKey.mono tm _ _ hxk, hx8⟩
        · rw [List.length_append, List.length_append, hkl]; rfl
        · rw [valN_snoc hv, hkl]
      · have hm : x ∈ us := by
          by_cases z : x ∈ us
          · exact z
          · rw [decide_eq_false z] at e; exact (e rfl).elim
        exact ⟨kvs, us, _, rfl, s1, hd, hst, hkl, hI.skip hx hm⟩
    · rintro σ H' ⟨kvs, us, lv, rfl, s1, hd, hst, hkl, hI⟩
      rw [hyl] at hI
      refine ⟨_, rfl, q, rfl, ⟨_, SqL.of (s1 _ _ hq)⟩, fun D hD => lcP walk_list (fun j H z => z = iv ((ks.map (posOf us)).getD j 0)) hD (by omega) (fun H' s => SqL.of (s _ _ (s1 _ _ hq))) (fun j z H' H'' _ r _ => r) (fun i Hi x Hx y => y_at y) ?_ ?_⟩
      · rintro i v Hi Hx Qc hi s2 _ ⟨rfl, hx⟩ q2
        obtain ⟨x, hx2, hxk, ⟨xb, rfl⟩, hx8⟩ := paired_get' hys hx
        have hv := hI.at (len_lt hx2) hx2
        refine ⟨rfl, _, rfl, _, rfl, nd, xb, kvs, x, _, rfl, rfl, s2 _ _ hd, hst.tm (Tm.of s2), NKey.mono (Tm.of (s1.trans s2)) _ _ hxk, hx8, hv, q2 _ _ (Same.refl _) ?_⟩
        rw [List.getD_eq_getElem?_getD, get_map hx2]
        rfl
      · intro H2 acc s2 hA hlen hval
        rw [hyl] at hlen
        have e : acc = (ks.map (posOf us)).map iv := by
          have := ivs_of (f := fun j => (ks.map (posOf us)).getD j 0) hlen hval
          rw [this]
          congr 1
          apply List.ext_getElem?
          intro j
          by_cases hj : j < ks.length
          · rw [rg_get hj, List.getD_eq_getElem?_getD, List.getElem?_eq_getElem (by rw [List.length_map]; exact hj)]; rfl
          · rw [List.getElem?_eq_none (by simp; omega), List.getElem?_eq_none (by simp; omega)]
        exact k D H2 _ (s1.trans s2) (s1.free hD) (by rw [hA, e]) hI.done
theorem nkeys_of {H : Hp} : ∀ {vs : List V} {ks : List NestedKey}, Paired (fun v k => NKey H k v) vs ks → NKeys H ks vs
  | _, _, .nil => .nil
  | _, _, .cons h t => .cons h (nkeys_of t)
theorem nn_at {ns : List Nat} {i : Nat} (h : i < ns.length) : atI (ns.map iv) (i : Int) = some (iv (nn ns i)) := atI_nat (get_map (nn_get h))
abbrev N_finer_looks : List Str := ["web", "numbers", "found", "room", "ends", "other", "door"]
theorem sc_finer_looks : FnScope N_finer_looks ["web", "numbers"] (defScope s_finer_looks) := ⟨rfl, rfl, rfl, by decide +kernel, rfl, by decide +kernel, by decide +kernel⟩
def spFiner : Sp := fun vs H Q _ => ∃ (p : Addr) (W : Web) (rm : Nat → Addr) (en : Nat → Nat → Addr) (q : Addr) (ns : List Nat), vs = [.ref p, .ref q] ∧ WebH H p W rm en ∧ Closed W ∧ Small W ∧ H q = some (.lst (ns.map iv)) ∧ ns.length = W.length ∧
  ∀ D H' ys, Same H H' → H D = none → H' D = some (.lst ys) → Paired (NKV H') ys ((List.range W.length).map fun r => fkey W ns r) → Q (.ref D) H'
theorem has_finer (B : Bt mg) (T : Top K mg "finer_looks" s_finer_looks) : Has P w K mg base "finer_looks" ["web", "numbers"] 1 spFiner := by
  obtain ⟨f, fd, F, hm⟩ := T.ex
  refine ⟨f, fd, ?_, hm, F.kp, F.binds fun _ _ _ _ _ _ us hl => match us, hl with | [_, _], _ => rfl⟩
  refine F.ok sc_finer_looks (fun vs H Q E h => ?_) (fun cdv A outer s H vs Q E hr h => ?_)
  · obtain ⟨p, W, rm, en, q, ns, rfl, _⟩ := h
    rfl
  · obtain ⟨p, W, rm, en, q, ns, rfl, hW, cW, smW, hq, hnl, k⟩ := h
    refine ⟨_, (pss_cons (ps_set (i := 2) sc_finer_looks.nd rfl (Or.inl rfl) (pe_lst pa_nil))
      (pss_cons (ps_for PassesOwn.never rfl (pi_enumT (by rfl) B.enumerate_ (pa_cons (pv 0) pa_nil)) (pg_tup rfl (pgs_cons (pg_name (i := 3) sc_finer_looks.nd rfl (Or.inl rfl)) (pgs_cons (pg_name (i := 4) sc_finer_looks.nd rfl (Or.inl rfl)) pgs_nil)))
      (pss_one (ps_expr (k_bm K rfl PySem.F.plainAttrs_list PySem.F.slot_list_append PySem.F.type_list_append mt_append (pv 2) (pa_cons (pe_tup (pa_cons (pe_ix (k_ixl K rfl) (pv 1) (pv 3) (fun _ _ => rfl)) (pa_cons (pe_callTy (k_tuple K rfl) (by rfl) B.tuple_ (by decide +kernel) (pa_cons (pe_lc (own := [("other", 5), ("door", 6)]) (g := gTup K 2 (gCons (gName 5) (gCons (gName 6) gNil))) rfl sc_finer_looks.nd (pi_tup (pv 4)) (blkOk_by (N := N_finer_looks) (sc := defScope s_finer_looks) (by decide +kernel)) (fun _ _ _ _ _ => (pg_tup rfl (pgs_cons (pg_name (i := 5) sc_finer_looks.nd rfl (Or.inl rfl)) (pgs_cons (pg_name (i := 6) sc_finer_looks.nd rfl (Or.inl rfl)) pgs_nil)))) (fun _ _ _ _ _ => pts_nil) (fun _ _ _ _ _ => (pe_tup (pa_cons (pv 6) (pa_cons (pe_ix (k_ixl K rfl) (pv 1) (pv 5) (fun _ _ => rfl)) pa_nil))))) pa_nil)) pa_nil))) pa_nil)))))
      (pss_one (ps_ret (pv 2))))), ?_⟩
    have hrooms := smW.rooms
    refine ⟨Nat.zero_le _, fun fl hfl => ?_⟩
    have s0 := same_new (o := .lst []) hfl
    refine ⟨_, rfl, p, roomsV W rm, rfl, SqT.of (s0 _ _ hW.web), for_enumT (fun i σ H' => ∃ (ys : List L2.V) (rv ev : Option L2.V), σ = [some (.ref p), some (.ref q), some (.ref fl), rv, ev, none, none] ∧ Same H H' ∧ H' fl = some (.lst ys) ∧ Paired (NKV H') ys ((List.range i).map fun r => fkey W ns r))
      ⟨[], none, none, rfl, s0, upd_same, .nil⟩ (fun i σ H' ⟨_, _, _, _, s, _⟩ => SqT.of (s _ _ hW.web)) ?_ ?_⟩
    · rintro i v T σ H' hi ⟨ys, rv, ev, rfl, s1, hf, hys⟩ hT
      have hil : i < W.length := by have := len_lt hi; rw [roomsV_len] at this; exact this
      have ev : v = .ref (rm i) := Option.some.inj (hi.symm.trans (roomsV_get hil))
      subst ev
      have s2 := same_upd (o := .tup [.int (i : Nat), .ref (rm i)]) s1 hT
      have hylen : ys.length = i := by rw [paired_len hys]; simp
      have nfT : fl ≠ T := ne_of_none hf hT
      refine ⟨T, _, rfl, SqT.of upd_same, rfl, _, _, rfl, _, _, rfl, rfl, ?_⟩
      refine ⟨_, rfl, .inl ⟨rfl, _, SqL.of (by rw [upd_ne nfT]; exact hf)⟩, _, rfl, _, rfl, q, _, _, _, rfl, rfl, SqL.of (s2 _ _ hq), nn_at (by omega), ?_⟩
      refine ⟨_, rfl, rm i, rfl, ⟨_, SqT.of (s2 _ _ (hW.room i hil))⟩, fun D hD => lcP walk_tup (fun j H z => ∃ t, z = .ref t ∧ H t = some (.tup [iv (nxt W i j).2, iv (nn ns (nxt W i j).1)])) hD (by rw [endsV_len]; have := smW.doors i; omega)
        (fun H' s => SqT.of (s _ _ (s2 _ _ (hW.room i hil)))) (fun j z H' H'' hA r k => by obtain ⟨t, e1, e2⟩ := r; exact ⟨t, e1, r_tm hA k _ _ e2⟩) (fun i Hi x Hx y => y_at y) ?_ ?_⟩
      · rintro d v Hi Hx Qc hi s3 _ ⟨rfl, hx⟩ q2
        have hd : d < deg W i := by rw [endsV_len] at hi; exact hi
        have ev : v = .ref (en i d) := Option.some.inj (hx.symm.trans (endsV_get hd))
        subst ev
        have s13 := s2.trans s3
        refine ⟨en i d, _, rfl, SqT.of (s13 _ _ (hW.ends i d hd)), rfl, _, _, rfl, _, _, rfl, rfl, rfl, ?_⟩
        refine ⟨_, rfl, _, rfl, _, rfl, q, _, _, _, rfl, rfl, SqL.of (s13 _ _ hq), nn_at (by rw [hnl]; exact cW.lt i d hd), sz1000 (by show 2 ≤ 100000; decide), fun t ht => ?_⟩
        exact q2 _ _ (same_new ht) ⟨t, rfl, upd_same⟩
      intro H2 acc s3 hA hlen hval
      rw [endsV_len] at hlen
      refine ⟨D, acc, rfl, .inl ⟨SqL.of hA, fun t1 ht1 => ⟨sz1000 (by show 2 ≤ 100000; decide), fun t2 ht2 => ?_⟩⟩⟩
      have s4 := same_upd (o := .tup acc) (s2.trans s3) ht1
      have s5 := same_upd (o := .tup [iv (nn ns i), .ref t1]) s4 ht2
      have sb : Same H' (upd (upd H2 t1 (.tup acc)) t2 (.tup [iv (nn ns i), .ref t1])) := same_upd (same_upd ((same_new hT).trans s3) ht1) ht2
      have hf2 := sb _ _ hf
      refine ⟨fl, ys, .ref t2, rfl, rfl, hf2, sl1000 (by omega), ?_⟩
      have n12 : t1 ≠ t2 := ne_of_none upd_same ht2
      have tm : Tm H' (upd (upd (upd H2 t1 (.tup acc)) t2 (.tup [iv (nn ns i), .ref t1])) fl (.lst (ys ++ [.ref t2]))) := (Tm.of sb).trans (Tm.lst hf2)
      have tm2 : Tm (upd (upd H2 t1 (.tup acc)) t2 (.tup [iv (nn ns i), .ref t1])) (upd (upd (upd H2 t1 (.tup acc)) t2 (.tup [iv (nn ns i), .ref t1])) fl (.lst (ys ++ [.ref t2]))) := Tm.lst hf2
      have tm3 : Tm H2 (upd (upd H2 t1 (.tup acc)) t2 (.tup [iv (nn ns i), .ref t1])) := (Tm.new ht1).trans (Tm.new ht2)
      refine ⟨ys ++ [.ref t2], _, _, rfl, same_mut s5 hfl, upd_same, ?_⟩
      rw [show (List.range (i + 1)).map (fun r => fkey W ns r) = (List.range i).map (fun r => fkey W ns r) ++ [fkey W ns i] by rw [List.range_succ, List.map_append]; rfl]
      refine paired_snoc ⟨?_, ⟨t2, rfl⟩, fkey_depth W ns i⟩ (Paired.mapP hys fun _ _ x => x.tm tm)
      refine .tup (tm2 _ _ upd_same) (.cons (.num _) (.cons (.tup (tm2 _ _ (by rw [upd_ne n12, upd_same])) (nkeys_of ?_)) .nil))
      refine paired_of (by rw [hlen]; simp) fun j y z hy hz => ?_
      have hj : j < deg W i := by have := len_lt hy; omega
      rw [rg_get hj] at hz
      cases hz
      obtain ⟨t, rfl, ht⟩ := hval j y hy
      exact .tup (tm2 _ _ (tm3 _ _ ht)) (.cons (.num _) (.cons (.num _) .nil))
    · rintro σ H' ⟨ys, rv, ev, rfl, s1, hf, hys⟩
      rw [roomsV_len] at hys
      exact ⟨_, rfl, k fl H' ys s1 hfl hf hys⟩
abbrev N_alike_by : List Str := ["web", "many", "numbers", "turn", "finer", "ends"]
theorem sc_alike_by : FnScope N_alike_by ["web", "many"] (defScope s_alike_by) := ⟨rfl, rfl, rfl, by decide +kernel, rfl, by decide +kernel, by decide +kernel⟩
def spAlike : Sp := fun vs H Q _ => ∃ (p : Addr) (W : Web) (rm : Nat → Addr) (en : Nat → Nat → Addr) (m : Nat), vs = [.ref p, iv m] ∧ WebH H p W rm en ∧ Closed W ∧ Small W ∧ m ≤ 2000 ∧
  ∀ D H' ns, Same H H' → H D = none → H' D = some (.lst (ns.map iv)) → KindN W m ns → Q (.ref D) H'
theorem has_alike (B : Bt mg) (T : Top K mg "alike_by" s_alike_by) (H_numbered_looks_K : Has P w K mg base "numbered_looks" ["looks"] 1 spNumK) (H_numbered_looks_N : Has P w K mg base "numbered_looks" ["looks"] 1 spNumN)
    (H_finer_looks_ : Has P w K mg base "finer_looks" ["web", "numbers"] 1 spFiner) : Has P w K mg base "alike_by" ["web", "many"] 2 spAlike := by
  obtain ⟨f_numbered_looks_K, fd_numbered_looks_K, G_numbered_looks_K, m_numbered_looks_K, kp_numbered_looks_K, b_numbered_looks_K⟩ := H_numbered_looks_K.ex
  obtain ⟨f_numbered_looks_N, fd_numbered_looks_N, G_numbered_looks_N, m_numbered_looks_N, kp_numbered_looks_N, b_numbered_looks_N⟩ := H_numbered_looks_N.ex
  obtain ⟨f_finer_looks_, fd_finer_looks_, G_finer_looks_, m_finer_looks_, kp_finer_looks_, b_finer_looks_⟩ := H_finer_looks_.ex
  obtain ⟨f, fd, F, hm⟩ := T.ex
  refine ⟨f, fd, ?_, hm, F.kp, F.binds fun _ _ _ _ _ _ us hl => match us, hl with | [_, _], _ => rfl⟩
  refine F.ok sc_alike_by (fun vs H Q E h => ?_) (fun cdv A outer s H vs Q E hr h => ?_)
  · obtain ⟨p, W, rm, en, m, rfl, _⟩ := h
    rfl
  · obtain ⟨p, W, rm, en, m, rfl, hW, cW, smW, hm, k⟩ := h
    refine ⟨_, (pss_cons (ps_set (i := 2) sc_alike_by.nd rfl (Or.inl rfl) (pe_call G_numbered_looks_K (hr.mono (by decide)) (by rfl) m_numbered_looks_K kp_numbered_looks_K b_numbered_looks_K .nil pass0 (pa_cons (pe_lc (own := [("ends", 5)]) (g := gName 5) rfl sc_alike_by.nd (pi_tup (pv 0)) (blkOk_by (N := N_alike_by) (sc := defScope s_alike_by) (by decide +kernel)) (fun _ _ _ _ _ => (pg_name (i := 5) sc_alike_by.nd rfl (Or.inl rfl))) (fun _ _ _ _ _ => pts_nil) (fun _ _ _ _ _ => (pe_callB (k_len K rfl) (by rfl) B.len_ PySem.boot_len (pa_cons (pv 5) pa_nil)))) pa_nil)))
      (pss_cons (ps_for PassesOwn.never rfl (pi_range1 (by rfl) B.range_ (pa_cons (pv 1) pa_nil)) (pg_name (i := 3) sc_alike_by.nd rfl (Or.inl rfl))
      (pss_cons (ps_set (i := 4) sc_alike_by.nd rfl (Or.inl rfl) (pe_call G_numbered_looks_N (hr.mono (by decide)) (by rfl) m_numbered_looks_N kp_numbered_looks_N b_numbered_looks_N .nil pass0 (pa_cons (pe_call G_finer_looks_ (hr.mono (by decide)) (by rfl) m_finer_looks_ kp_finer_looks_ b_finer_looks_ .nil pass0 (pa_cons (pv 0) (pa_cons (pv 2) pa_nil))) pa_nil)))
      (pss_cons (ps_if (pt_cmpR (k_eqD K rfl hr.units) (pv 4) (pv 2) (nomark _)) (pss_one (ps_ret (pv 2))) pss_nil)
      (pss_one (ps_set (i := 2) sc_alike_by.nd rfl (Or.inl rfl) (pv 4))))))
      (pss_one (ps_ret (pv 2))))), ?_⟩
    have hrooms := smW.rooms
    refine ⟨_, rfl, p, rfl, ⟨_, SqT.of hW.web⟩, fun D hD => lcP walk_tup (fun j H z => z = iv (deg W j)) hD (by rw [roomsV_len]; omega) (fun H' s => SqT.of (s _ _ hW.web)) (fun j z H' H'' _ r _ => r) (fun i Hi x Hx y => y_at y) ?_ ?_⟩
    · rintro i v Hi Hx Qc hi s1 _ ⟨rfl, hx⟩ q2
      have hil : i < W.length := by rw [roomsV_len] at hi; exact hi
      have ev : v = .ref (rm i) := Option.some.inj (hx.symm.trans (roomsV_get hil))
      subst ev
      refine ⟨rfl, _, rfl, rm i, _, rfl, .inr (SqT.of (s1 _ _ (hW.room i hil))), q2 _ _ (Same.refl _) ?_⟩
      rw [endsV_len]
    intro H1 acc s1 hA hlen hval
    rw [roomsV_len] at hlen
    have ea := ivs_of (f := fun j => deg W j) hlen hval
    refine ⟨D, (List.range W.length).map fun r => deg W r, rfl, by rw [hA, ea], by simp; omega, fun N H2 ns s2 hN hN2 hns => ?_⟩
    have s12 := s1.trans s2
    have hN0 : H N = none := s1.free hN
    refine ⟨_, rfl, (m : Int), rfl, by omega, by omega, for_range (lo := 0) (n := _) (fun i σ H' => ∃ (N : Addr) (ns : List Nat) (tv fv : Option L2.V), σ = [some (.ref p), some (iv m), some (.ref N), tv, fv, none] ∧ Same H H' ∧ H N = none ∧ H' N = some (.lst (ns.map iv)) ∧ KindN W i ns)
      ⟨N, ns, none, none, rfl, s12, hN0, hN2, KindN.start hns⟩ ?_ ?_⟩
    · rintro i σ H' hi ⟨N, ns, tv, fv, rfl, s3, hN0, hN3, hk⟩
      have hi : i < m := by rw [Int.toNat_natCast] at hi; exact hi
      have hW3 := hW.tm (Tm.of s3)
      refine ⟨_, rfl, _, rfl, p, W, rm, en, N, ns, rfl, hW3, cW, smW, hN3, hk.len, fun F H4 ys s4 hF hF4 hys => ?_⟩
      refine ⟨F, ys, _, rfl, hF4, hys, by simp; omega, fun M H5 ms s5 hM hM5 hms => ?_⟩
      have s45 := s4.trans s5
      have s35 := s3.trans s45
      have hk2 := hk.next cW hms
      refine ⟨_, rfl, _, rfl, _, _, .lst (SqL.of hM5) (dp_ints ms), .lst (SqL.of (s45 _ _ hN3)) (dp_ints ns), list_shaped _, list_shaped _, _, rfl, ?_⟩
      rw [list_eqv]
      refine ite2 (fun e => ?_) (fun e => ?_)
      · have e := of_decide_eq_true e
        subst e
        exact ⟨_, rfl, k N H5 ms s35 hN0 (s45 _ _ hN3) (hk.stay cW hk2 (by omega))⟩
      · exact ⟨_, rfl, M, ms, _, _, rfl, s35, s3.free (s4.free hM), hM5, hk2⟩
    · rintro σ H' ⟨N, ns, tv, fv, rfl, s3, hN0, hN3, hk⟩
      rw [Int.toNat_natCast] at hk
      exact ⟨_, rfl, k N H' ns s3 hN0 hN3 hk⟩
/-- the rooms of a number, of those below n -/
def roomsOf (ns : List Nat) (n g : Nat) : List Nat := (List.range n).filter fun r => nn ns r = g
theorem roomsOf_mem {ns : List Nat} {n g r : Nat} : r ∈ roomsOf ns n g ↔ r < n ∧ nn ns r = g := by
  unfold roomsOf
  rw [List.mem_filter, List.mem_range]
  simp
theorem roomsOf_succ {ns : List Nat} {n g : Nat} : roomsOf ns (n + 1) g = if nn ns n = g then roomsOf ns n g ++ [n] else roomsOf ns n g := by
  unfold roomsOf
  rw [List.range_succ, List.filter_append]
  by_cases e : nn ns n = g
  · rw [if_pos e]; simp [e]
  · rw [if_neg e]; simp [e]
theorem roomsOf_len (ns : List Nat) (n g : Nat) : (roomsOf ns n g).length ≤ n := by
  unfold roomsOf
  have := List.length_filter_le (fun r => decide (nn ns r = g)) (List.range n)
  rw [List.length_range] at this
  exact this
abbrev N_kinds_by : List Str := ["web", "many", "numbers", "found", "room", "number"]
theorem sc_kinds_by : FnScope N_kinds_by ["web", "many"] (defScope s_kinds_by) := ⟨rfl, rfl, rfl, by decide +kernel, rfl, by decide +kernel, by decide +kernel⟩
/-- the kinds as lists of rooms, side by side -/
structure KindsH (H : Hp) (D : Addr) (W : Web) (ns : List Nat) (gs : List Addr) : Prop where
  lst : H D = some (.lst (gs.map .ref))
  item : ∀ g a, gs[g]? = some a → H a = some (.lst ((roomsOf ns W.length g).map iv))
  all : ∀ r, r < W.length → nn ns r < gs.length
  few : gs.length ≤ 1001
def spKindsBy : Sp := fun vs H Q _ => ∃ (p : Addr) (W : Web) (rm : Nat → Addr) (en : Nat → Nat → Addr) (m : Nat), vs = [.ref p, iv m] ∧ WebH H p W rm en ∧ Closed W ∧ Small W ∧ m ≤ 2000 ∧ 0 < W.length ∧
  ∀ D H' ns gs, Same H H' → KindN W m ns → KindsH H' D W ns gs → Q (.ref D) H'
theorem has_kindsby (B : Bt mg) (T : Top K mg "kinds_by" s_kinds_by) (H_alike_by_ : Has P w K mg base "alike_by" ["web", "many"] 2 spAlike) : Has P w K mg base "kinds_by" ["web", "many"] 3 spKindsBy := by
  obtain ⟨f_alike_by_, fd_alike_by_, G_alike_by_, m_alike_by_, kp_alike_by_, b_alike_by_⟩ := H_alike_by_.ex
  obtain ⟨f, fd, F, hm⟩ := T.ex
  refine ⟨f, fd, ?_, hm, F.kp, F.binds fun _ _ _ _ _ _ us hl => match us, hl with | [_, _], _ => rfl⟩
  refine F.ok sc_kinds_by (fun vs H Q E h => ?_) (fun cdv A outer s H vs Q E hr h => ?_)
  · obtain ⟨p, W, rm, en, m, rfl, _⟩ := h
    rfl
  · obtain ⟨p, W, rm, en, m, rfl, hW, cW, smW, hm, hpos, k⟩ := h
    refine ⟨_, (pss_cons (ps_set (i := 2) sc_kinds_by.nd rfl (Or.inl rfl) (pe_call G_alike_by_ (hr.mono (by decide)) (by rfl) m_alike_by_ kp_alike_by_ b_alike_by_ .nil pass0 (pa_cons (pv 0) (pa_cons (pv 1) pa_nil))))
      (pss_cons (ps_setLc (i := 3) (own := [("number", 5)]) (g := gName 5) rfl sc_kinds_by.nd rfl rfl (sw_true rfl rfl rfl (by decide +kernel)) (pi_range1 (by rfl) B.range_ (pa_cons (pe_op op_add (pe_callB (k_max K rfl rfl) (by rfl) B.max_ (by decide +kernel) (pa_cons (pv 2) pa_nil)) pe_int) pa_nil)) (blkOk_by (N := N_kinds_by) (sc := defScope s_kinds_by) (by decide +kernel)) (fun _ _ _ _ _ => (pg_name (i := 5) sc_kinds_by.nd rfl (Or.inl rfl))) (fun _ _ _ _ _ => pts_nil) (fun _ _ _ _ _ => (pe_lst pa_nil)))
      (pss_cons (ps_for PassesOwn.never rfl (pi_enum (by rfl) B.enumerate_ (pa_cons (pv 2) pa_nil)) (pg_tup rfl (pgs_cons (pg_name (i := 4) sc_kinds_by.nd rfl (Or.inl rfl)) (pgs_cons (pg_name (i := 5) sc_kinds_by.nd rfl (Or.inl rfl)) pgs_nil)))
      (pss_one (ps_expr (k_bm K rfl PySem.F.plainAttrs_list PySem.F.slot_list_append PySem.F.type_list_append mt_append (pe_ix (k_ixl K rfl) (pv 3) (pv 5) (fun _ _ => rfl)) (pa_cons (pv 4) pa_nil)))))
      (pss_one (ps_ret (pv 3)))))), ?_⟩
    have hrooms := smW.rooms
    refine ⟨_, rfl, _, rfl, p, W, rm, en, m, rfl, hW, cW, smW, hm, fun N H1 ns s1 hN hN1 hk => ?_⟩
    have hnl := hk.len
    refine ⟨_, rfl, N, ns.map fun n : Nat => (n : Int), rfl, SqL.of (by rw [hN1, List.map_map]; rfl), by rw [List.length_map]; omega, fun mx hmx hle => ?_⟩
    obtain ⟨mn, hmn, rfl⟩ := List.mem_map.mp hmx
    have hmlt := hk.lt mn hmn
    refine ⟨_, _, rfl, rfl, ((mn : Int) + 1), rfl, by omega, by omega, fun D hD => ?_⟩
    refine lcFresh walk_range (fun _ => []) hD (by omega) (fun _ _ => trivial) (fun i Hi x Hx y => y_fn y) ?_ ?_
    · rintro i v Hi Hx Qc hi s2 ⟨rfl, rfl⟩ q2
      exact ⟨rfl, Nat.zero_le _, fun a ha => q2 a _ (same_new ha) ha upd_same⟩
    intro H2 gs s2 hA hglen hgnd hgs
    have hgn : gs.length = mn + 1 := by rw [hglen]; omega
    have s12 := s1.trans s2
    have hD0 : H D = none := s1.free hD
    have hN2 := s2 _ _ hN1
    have nND : N ≠ D := ne_of_none hN1 hD
    refine ⟨_, rfl, N, ns.map iv, rfl, SqL.of hN2, for_enumL (fun i σ H' => ∃ (rv nv : Option L2.V), σ = [some (.ref p), some (iv m), some (.ref N), some (.ref D), rv, nv] ∧ Same H H' ∧ H' N = some (.lst (ns.map iv)) ∧ H' D = some (.lst (gs.map .ref)) ∧ ∀ g a, gs[g]? = some a → H' a = some (.lst ((roomsOf ns i g).map iv)))
      ⟨none, none, rfl, s12, hN2, hA, fun g a hg => ?_⟩ (fun i σ H' ⟨_, _, _, _, hN3, _⟩ => SqL.of hN3) ?_ ?_⟩
    · exact (hgs g a hg).1
    · rintro i v T σ H' hi ⟨rv, nv, rfl, s3, hN3, hD3, hg3⟩ hT
      obtain ⟨n, hn, rfl⟩ := map_get hi
      have hil := len_lt hn
      have en := nn_of hn
      have hnle : n ≤ mn := by
        have := hle (n : Int) (List.mem_map.mpr ⟨n, List.mem_of_getElem? hn, rfl⟩)
        omega
      refine ⟨T, _, rfl, SqT.of upd_same, rfl, _, _, rfl, _, _, rfl, rfl, ?_⟩
      have hgl : n < gs.length := by omega
      obtain ⟨ga, hga⟩ : ∃ ga, gs[n]? = some ga := ⟨gs[n], by simp [hgl]⟩
      have nDT : D ≠ T := ne_of_none hD3 hT
      have ngT : ga ≠ T := ne_of_none (hg3 n ga hga) hT
      have hgl2 := roomsOf_len ns i n
      obtain ⟨_, ga0, gaD⟩ := hgs n ga hga
      have hat : atI (gs.map L2.V.ref) (n : Int) = some (.ref ga) := atI_nat (get_map hga)
      have gaN : ga ≠ N := (ne_of_none hN1 ga0).symm
      refine ⟨_, rfl, _, rfl, D, _, _, _, rfl, rfl, SqL.of (by rw [upd_ne nDT]; exact hD3), hat, .inl ⟨rfl, _, SqL.of (by rw [upd_ne ngT]; exact hg3 n ga hga)⟩, _, rfl, ga, _, _, rfl, rfl, by rw [upd_ne ngT]; exact hg3 n ga hga, sl1000 (by rw [List.length_map]; omega), ?_⟩
      refine ⟨_, _, rfl, same_mut (same_upd s3 hT) (s1.free ga0), ?_, ?_, fun g a hg => ?_⟩
      · rw [upd_ne gaN.symm, upd_ne (ne_of_none hN3 hT)]; exact hN3
      · rw [upd_ne gaD.symm, upd_ne nDT]; exact hD3
      · rw [roomsOf_succ]
        by_cases e : g = n
        · subst e
          rw [hga] at hg; cases hg
          rw [upd_same, if_pos en, List.map_append]; rfl
        · have hne : a ≠ ga := fun z => by
            subst z
            exact e ((List.getElem?_inj (len_lt hg) hgnd).mp (hg.trans hga.symm))
          rw [if_neg (by rw [en]; exact Ne.symm e), upd_ne hne, upd_ne (ne_of_none (hg3 g a hg) hT)]
          exact hg3 g a hg
    · rintro σ H' ⟨rv, nv, rfl, s3, hN3, hD3, hg3⟩
      rw [List.length_map, hnl] at hg3
      refine ⟨_, rfl, k D H' ns gs s3 hk ⟨hD3, hg3, fun r hr => ?_, by omega⟩⟩
      have := hle (nn ns r : Int) (List.mem_map.mpr ⟨_, List.mem_of_getElem? (nn_get (by omega)), rfl⟩)
      omega
abbrev N_kinds : List Str := ["web"]
theorem sc_kinds : FnScope N_kinds ["web"] (defScope s_kinds) := ⟨rfl, rfl, rfl, by decide +kernel, rfl, by decide +kernel, by decide +kernel⟩
def spKinds : Sp := fun vs H Q _ => ∃ (p : Addr) (W : Web) (rm : Nat → Addr) (en : Nat → Nat → Addr), vs = [.ref p] ∧ WebH H p W rm en ∧ Closed W ∧ Small W ∧ 0 < W.length ∧
  ∀ D H' ns gs, Same H H' → KindN W W.length ns → KindsH H' D W ns gs → Q (.ref D) H'
theorem has_kinds (B : Bt mg) (T : Top K mg "kinds" s_kinds) (H_kinds_by_ : Has P w K mg base "kinds_by" ["web", "many"] 3 spKindsBy) : Has P w K mg base "kinds" ["web"] 4 spKinds := by
  obtain ⟨f_kinds_by_, fd_kinds_by_, G_kinds_by_, m_kinds_by_, kp_kinds_by_, b_kinds_by_⟩ := H_kinds_by_.ex
  obtain ⟨f, fd, F, hm⟩ := T.ex
  refine ⟨f, fd, ?_, hm, F.kp, F.binds fun _ _ _ _ _ _ us hl => match us, hl with | [_], _ => rfl⟩
  refine F.ok sc_kinds (fun vs H Q E h => ?_) (fun cdv A outer s H vs Q E hr h => ?_)
  · obtain ⟨p, W, rm, en, rfl, _⟩ := h
    rfl
  · obtain ⟨p, W, rm, en, rfl, hW, cW, smW, hpos, k⟩ := h
    refine ⟨_, (pss_one (ps_ret (pe_call G_kinds_by_ (hr.mono (by decide)) (by rfl) m_kinds_by_ kp_kinds_by_ b_kinds_by_ .nil pass0 (pa_cons (pv 0) (pa_cons (pe_callB (k_len K rfl) (by rfl) B.len_ PySem.boot_len (pa_cons (pv 0) pa_nil)) pa_nil))))), ?_⟩
    have hrooms := smW.rooms
    exact ⟨_, rfl, _, rfl, p, _, rfl, .inr (SqT.of hW.web), p, W, rm, en, W.length, by rw [roomsV_len]; rfl, hW, cW, smW, by omega, hpos, k⟩
end
end K18
namespace K18
open PySem PySem.Spec PyProof.Rows L2
section
variable {P : Program} {w : World} {K : PySem.W.Frag} {mg : Str → Option Value} {base : Heap}
/-! ### the box of numbers; webs as the builders make them -/
/-- a box, its third number at most f -/
def BoxOk (H : Hp) (b : Addr) (f : Nat) : Prop := ∃ x y z : Int, H b = some (.lst [.int x, .int y, .int z]) ∧ 0 ≤ z ∧ z ≤ f
theorem BoxOk.le {H : Hp} {b : Addr} {f g : Nat} (h : BoxOk H b f) (l : f ≤ g) : BoxOk H b g := let ⟨x, y, z, e, h1, h2⟩ := h; ⟨x, y, z, e, h1, by omega⟩
theorem BoxOk.some {H : Hp} {b : Addr} {f : Nat} (h : BoxOk H b f) : ∃ xs, H b = Option.some (.lst xs) := let ⟨_, _, _, e, _⟩ := h; ⟨_, e⟩
theorem BoxOk.keep {H H' : Hp} {b : Addr} {f : Nat} (h : BoxOk H b f) (s : H' b = H b) : BoxOk H' b f := let ⟨x, y, z, e, h1, h2⟩ := h; ⟨x, y, z, by rw [s]; exact e, h1, h2⟩
theorem BoxOk.same {H H' : Hp} {b : Addr} {f : Nat} (h : BoxOk H b f) (s : Same H H') : BoxOk H' b f := let ⟨x, y, z, e, h1, h2⟩ := h; ⟨x, y, z, s _ _ e, h1, h2⟩
/-- the heap behind work with the box b: all that stood stands, but b may have changed; b is a list still -/
structure BK (b : Addr) (H H' : Hp) : Prop where
  keep : ∀ c o, H c = some o → c ≠ b → H' c = some o
  box : ∃ xs, H b = some (.lst xs)
  box' : ∃ xs, H' b = some (.lst xs)
section
variable {b : Addr} {H H' H2 : Hp}
theorem BK.of (s : Same H H') (h : ∃ xs, H b = some (.lst xs)) : BK b H H' := ⟨fun c o e _ => s c o e, h, h.elim fun xs e => ⟨xs, s _ _ e⟩⟩
theorem BK.trans (a : BK b H H') (c : BK b H' H2) : BK b H H2 := ⟨fun d o e n => c.keep d o (a.keep d o e n) n, a.box, c.box'⟩
theorem BK.same (a : BK b H H') (s : Same H' H2) : BK b H H2 := a.trans (.of s a.box')
theorem BK.tm (a : BK b H H') : Tm H H' := fun c xs e => a.keep c _ e (a.box.elim fun ys q => ne_of e q (fun z => nomatch z))
theorem BK.free (a : BK b H H') {c : Addr} (h : H' c = none) : H c = none := by
  cases e : H c with
  | none => rfl
  | some o =>
    by_cases n : c = b
    · subst n; obtain ⟨xs, q⟩ := a.box'; rw [q] at h; cases h
    · rw [a.keep c o e n] at h; cases h
theorem BK.new (a : BK b H H') {p : Addr} {o : HO} (h : H' p = none) : BK b H (upd H' p o) := a.same (same_new h)
/-- a change of what is new -/
theorem BK.mut (a : BK b H H') {p : Addr} {o : HO} (h : H p = none) : BK b H (upd H' p o) := by
  have nb : p ≠ b := fun e => by subst e; obtain ⟨xs, q⟩ := a.box; rw [q] at h; cases h
  exact ⟨fun c u e n => by rw [upd_ne (ne_of_none e h)]; exact a.keep c u e n, a.box, by obtain ⟨xs, q⟩ := a.box'; exact ⟨xs, by rw [upd_ne nb.symm]; exact q⟩⟩
theorem BK.ne (a : BK b H H') {p : Addr} (h : H' p = none) : p ≠ b := fun e => by subst e; obtain ⟨xs, q⟩ := a.box'; rw [q] at h; cases h
theorem BK.refl (h : ∃ xs, H b = some (.lst xs)) : BK b H H := .of (Same.refl _) h
end
/-- comprehensions that change the box -/
theorem lcB {J : It} {n : Nat} {G : Hp → Prop} {Y : Nat → Hp → V → Hp → Prop} (wk : Walk J n G Y) (b : Addr) (Jn : Nat → Hp → Prop) (R : Nat → Hp → V → Prop) {g : TG} {te : TE} {vs : List Nat} {σ : L2.St} {H1 : Hp} {D : Addr} {Qd : Hp → Prop}
    (hD : H1 D = none) (hb : ∃ xs, H1 b = some (.lst xs)) (hn : n ≤ 90000) (hG : ∀ H', BK b H1 H' → G H') (hJ0 : Jn 0 H1) (hJ : ∀ i H' H'', Jn i H' → H'' b = H' b → Jn i H'')
    (hR : ∀ j z H' H'', (∃ acc, H' D = some (.lst acc)) → (∃ xs, H' b = some (.lst xs)) → R j H' z → (∀ c o, H' c = some o → c ≠ b → c ≠ D → H'' c = some o) → R j H'' z)
    (hY : ∀ i Hi x Hx, Y i Hi x Hx → Same Hi Hx ∧ Hx b = Hi b)
    (hs : ∀ i x Hi Hx (Qc : VK), i < n → BK b H1 Hi → Jn i Hx → Y i Hi x Hx → (∃ acc, Hx D = some (.lst acc)) → (∀ y Hy, BK b Hx Hy → Jn (i + 1) Hy → R i Hy y → Qc y Hy) → g x (wipe σ vs) Hx fun σ2 H2 => wipe σ2 vs = wipe σ vs ∧ te σ2 H2 Qc)
    (hd : ∀ H' acc, BK b H1 H' → Jn n H' → H' D = some (.lst acc) → acc.length = n → (∀ (j : Nat) (z : V), acc[j]? = some z → R j H' z) → Qd H') :
    ∃ W : Nat → Nat → Hp → Prop, (∃ m, W 0 m (upd H1 D (.lst []))) ∧ ∀ i m H, W i m H →
      (J.stop i H ∧ Qd H) ∨ (J.go i H ∧ ∃ Nx : Hp → Prop, (∀ H', Nx H' → ∃ m', m' < m ∧ W (i + 1) m' H') ∧ ∀ x H', J.yld i H x H' → g x (wipe σ vs) H' fun σ2 H2 => wipe σ2 vs = wipe σ vs ∧ tYes σ2 H2 fun b H3 =>
        if b = true then te σ2 H3 fun y H4 => ∃ acc, H4 D = some (.lst acc) ∧ acc.length < sizeLine ∧ Nx (upd H4 D (.lst (acc ++ [y]))) else Nx H3) := by
  have nDb : D ≠ b := fun e => by subst e; obtain ⟨xs, q⟩ := hb; rw [q] at hD; cases hD
  refine lc_it wk (fun i H' => BK b H1 H' ∧ Jn i H' ∧ ∃ acc, H' D = some (.lst acc) ∧ acc.length = i ∧ ∀ (j : Nat) (z : V), acc[j]? = some z → R j H' z) ⟨(BK.refl hb).new hD, hJ _ _ _ hJ0 (upd_ne nDb.symm), [], upd_same, rfl, fun j z h => by simp at h⟩ (fun i H' _ p => hG H' p.1) ?_ ?_
  · rintro i x Hi Hx hi ⟨k1, j1, acc, a1, a2, a3⟩ y
    obtain ⟨s1, eb⟩ := hY i Hi x Hx y
    have eqf : ∀ (Qc : VK) (Z : Hp → Prop), (fun (σ2 : L2.St) (H2 : Hp) => wipe σ2 vs = wipe σ vs ∧ tYes σ2 H2 fun b H3 => if b = true then te σ2 H3 Qc else Z H3) = fun σ2 H2 => wipe σ2 vs = wipe σ vs ∧ te σ2 H2 Qc := fun Qc Z => by
      funext σ2 H2
      show (wipe σ2 vs = wipe σ vs ∧ if true = true then te σ2 H2 Qc else Z H2) = _
      rw [if_pos rfl]
    rw [eqf]
    refine hs i x Hi Hx _ hi k1 (hJ _ _ _ j1 eb) y ⟨acc, s1 _ _ a1⟩ fun v Hy k2 j3 r => ?_
    have aD : Hy D = some (.lst acc) := k2.keep _ _ (s1 _ _ a1) nDb
    refine ⟨acc, aD, sl1000 (by omega), ((k1.same s1).trans k2).mut hD, hJ _ _ _ j3 (upd_ne nDb.symm), acc ++ [v], upd_same, by rw [List.length_append, a2]; rfl, fun j z hz => ?_⟩
    rcases snoc_get hz with hz | ⟨ej, ez⟩
    · refine hR j z Hi _ ⟨acc, a1⟩ k1.box' (a3 j z hz) fun c o e n1 n2 => ?_
      rw [upd_ne n2]
      exact k2.keep c o (s1 c o e) n1
    · subst ej; subst ez
      rw [a2]
      refine hR i z Hy _ ⟨acc, aD⟩ k2.box' r fun c o e n1 n2 => ?_
      rw [upd_ne n2]
      exact e
  · rintro H' ⟨k1, j1, acc, a1, a2, a3⟩
    exact hd H' acc k1 j1 a1 a2 a3
theorem rb_tm {H' H'' : Hp} {D b : Addr} (hD : ∃ acc, H' D = some (.lst acc)) (hb : ∃ xs, H' b = some (.lst xs)) (k : ∀ c o, H' c = some o → c ≠ b → c ≠ D → H'' c = some o) : Tm H' H'' := fun c xs e =>
  k c _ e (hb.elim fun ys q => ne_of e q (fun z => nomatch z)) (hD.elim fun ys q => ne_of e q (fun z => nomatch z))
theorem yb_at {xs : List V} {i : Nat} {Hi Hx : Hp} {x : V} {b : Addr} (y : YAt xs i Hi x Hx) : Same Hi Hx ∧ Hx b = Hi b := by
  obtain ⟨rfl, _⟩ := y; exact ⟨Same.refl _, rfl⟩
theorem yb_fn {f : Nat → V} {i : Nat} {Hi Hx : Hp} {x : V} {b : Addr} (y : YFn f i Hi x Hx) : Same Hi Hx ∧ Hx b = Hi b := by
  obtain ⟨rfl, _⟩ := y; exact ⟨Same.refl _, rfl⟩
/-- a room as a value -/
def RowV (H : Hp) (v : V) (row : List Pt) : Prop := ∃ q ys, v = .ref q ∧ H q = some (.tup ys) ∧ Paired (PtV H) ys row
theorem RowV.tm {H H' : Hp} {v : V} {row : List Pt} (h : RowV H v row) (t : Tm H H') : RowV H' v row := let ⟨q, ys, a, b, c⟩ := h; ⟨q, ys, a, t _ _ b, pts_tm t c⟩
theorem webV_of {H : Hp} {p : Addr} {xs : List V} {W : Web} (h : H p = some (.tup xs)) (hx : Paired (RowV H) xs W) : WebV H (.ref p) W := by
  have hxl := paired_len hx
  have h1 : ∀ r : Nat, ∃ (q : Addr) (e : Nat → Addr), r < W.length → xs[r]? = some (.ref q) ∧ H q = some (.tup ((List.range (deg W r)).map fun d => .ref (e d))) ∧ ∀ d, d < deg W r → H (e d) = some (.tup [iv (nxt W r d).1, iv (nxt W r d).2]) := by
    intro r
    by_cases hr : r < W.length
    · obtain ⟨v, hv, q, ys, rfl, hq, hp⟩ := paired_get hx (row_of hr)
      have hyl := paired_len hp
      have h2 : ∀ d : Nat, ∃ c : Addr, d < deg W r → ys[d]? = some (.ref c) ∧ H c = some (.tup [iv (nxt W r d).1, iv (nxt W r d).2]) := by
        intro d
        by_cases hd : d < deg W r
        · obtain ⟨y, hy, c, rfl, hc⟩ := paired_get hp (end_of hd)
          exact ⟨c, fun _ => ⟨hy, hc⟩⟩
        · exact ⟨0, fun z => (hd z).elim⟩
      refine ⟨q, fun d => (h2 d).choose, fun _ => ⟨hv, ?_, fun d hd => ((h2 d).choose_spec hd).2⟩⟩
      rw [hq]
      congr 2
      apply List.ext_getElem?
      intro d
      by_cases hd : d < deg W r
      · rw [rg_get hd, ((h2 d).choose_spec hd).1]
      · rw [List.getElem?_eq_none (by rw [hyl]; exact Nat.le_of_not_lt hd), List.getElem?_eq_none (by simp; omega)]
    · exact ⟨0, fun _ => 0, fun z => (hr z).elim⟩
  refine ⟨p, fun r => (h1 r).choose, fun r => (h1 r).choose_spec.choose, rfl, ?_, fun r hr => ((h1 r).choose_spec.choose_spec hr).2.1, fun r d hd => ((h1 r).choose_spec.choose_spec (lt_of_deg hd)).2.2 d hd⟩
  rw [h]
  unfold roomsV
  congr 2
  apply List.ext_getElem?
  intro r
  by_cases hr : r < W.length
  · rw [rg_get hr, ((h1 r).choose_spec.choose_spec hr).1]
  · rw [List.getElem?_eq_none (by omega), List.getElem?_eq_none (by simp; omega)]
theorem cut_to {xs : List V} {j : Nat} : cutV xs none (some (j : Int)) = xs.take j := by
  unfold cutV
  rw [HT.sIx_none, HT.sIx_nat, List.drop_zero, Nat.sub_zero]
  by_cases h : j ≤ xs.length
  · rw [Nat.min_eq_left h]
  · rw [Nat.min_eq_right (by omega), List.take_length, List.take_of_length_le (by omega)]
theorem cut_mid {xs : List V} {a b : Nat} : cutV xs (some (a : Int)) (some (b : Int)) = (xs.drop (min a xs.length)).take (min b xs.length - min a xs.length) := by
  unfold cutV
  rw [HT.sIx_nat, HT.sIx_nat]
end
end K18
namespace K18
open PySem PySem.Spec PyProof.Rows L2
section
variable {P : Program} {w : World} {K : PySem.W.Frag} {mg : Str → Option Value} {base : Heap}
theorem p1 : (0 : Int) < 2147483647 := by decide
theorem p2 : (0 : Int) < 2147483629 := by decide
theorem p3 : (0 : Int) < 40009 := by decide
theorem p4 : (0 : Int) < 1009 := by decide
theorem p5 : (0 : Int) < 998244353 := by decide
theorem ite01 {c : Bool} : -(2 ^ 64) < (if c = true then (1 : Int) else 0) ∧ (if c = true then (1 : Int) else 0) < 2 ^ 64 := by
  cases c <;> exact ⟨by decide, by decide⟩
theorem mod_iv {x : Int} {m : Nat} (h : 0 < m) : ∃ r : Nat, r < m ∧ x % (m : Int) = (r : Int) := by
  have h1 := Int.emod_nonneg x (show (m : Int) ≠ 0 by omega)
  have h2 := Int.emod_lt_of_pos x (show (0 : Int) < m by omega)
  exact ⟨(x % (m : Int)).toNat, by omega, by omega⟩
theorem q_mod {Q : VK} {x : Int} {m : Nat} {H : Hp} (hm : 0 < m) (h : ∀ r : Nat, r < m → Q (iv r) H) : Q (.int (x % (m : Int))) H := by
  obtain ⟨r, hr, e⟩ := mod_iv (x := x) hm
  rw [e]
  exact h r hr
theorem modb {x n c : Int} (h : 0 < n) (hn : n ≤ 100000) (hc : 0 ≤ c ∧ c ≤ 100) : -(2 ^ 64) < x % n + c ∧ x % n + c < 2 ^ 64 := by
  have h1 := Int.emod_nonneg x (show n ≠ 0 by omega)
  have h2 := Int.emod_lt_of_pos x h
  omega
/-! _law_box, _law_take, _law_folded -/
abbrev N_law_box : List Str := ["_law_script", "_law_k", "_law_cell"]
theorem sc_law_box : FnScope N_law_box ["_law_script", "_law_k"] (defScope s_law_box) := ⟨rfl, rfl, rfl, by decide +kernel, rfl, by decide +kernel, by decide +kernel⟩
def spBox : Sp := fun vs H Q _ => ∃ (q : Addr) (cs : List Int) (k : Nat), vs = [.ref q, iv k] ∧ H q = some (.lst (cs.map .int)) ∧ cs.length ≤ 1000 ∧ k ≤ 1000 ∧ ∀ b H', Same H H' → H b = none → BoxOk H' b 0 → Q (.ref b) H'
theorem has_box (B : Bt mg) (T : Top K mg "_law_box" s_law_box) : Has P w K mg base "_law_box" ["_law_script", "_law_k"] 1 spBox := by
  obtain ⟨f, fd, F, hm⟩ := T.ex
  refine ⟨f, fd, ?_, hm, F.kp, F.binds fun _ _ _ _ _ _ us hl => match us, hl with | [_, _], _ => rfl⟩
  refine F.ok sc_law_box (fun vs H Q E h => ?_) (fun cdv A outer s H vs Q E hr h => ?_)
  · obtain ⟨q, cs, k, rfl, _⟩ := h
    rfl
  · obtain ⟨q, cs, k, rfl, hq, hl, hk, kk⟩ := h
    refine ⟨_, (pss_cons (ps_set (i := 2) sc_law_box.nd rfl (Or.inl rfl) (pe_ix (k_ixl K rfl) (pe_op op_cat (pv 0) (pe_op op_rep (pe_lst (pa_cons pe_int pa_nil)) (pe_op op_add (pv 1) pe_int))) (pv 1) (fun _ _ => rfl)))
      (pss_one (ps_ret (pe_lst (pa_cons (pe_op op_mul (pe_callB call_abs (by rfl) B.abs_ (by decide +kernel) (pa_cons (pv 2) pa_nil)) (pe_callTy call_int1 (by rfl) B.int_ (by decide +kernel) (pa_cons (pe_cmpR op_ge (pe_callB call_abs (by rfl) B.abs_ (by decide +kernel) (pa_cons (pv 2) pa_nil)) (pe_op op_pow pe_int pe_int) (nomark _)) pa_nil))) (pa_cons (pe_op op_mod (pe_op op_mul (pe_op op_add (pe_op op_add (pe_op op_mod (pv 2) pe_int) (pe_op op_mul pe_int (pv 1))) pe_int) pe_int) pe_int) (pa_cons pe_int pa_nil))))))), ?_⟩
    refine ⟨_, rfl, sz1000 (by show 1 ≤ 100000; decide), fun z1 hz1 => ⟨_, rfl, _, _, rfl, rfl, z1, _, _, rfl, rfl, upd_same, by omega, by omega, ?_, fun z2 hz2 => ?_⟩⟩
    · show 1 * ((k : Int) + 1).toNat ≤ sizeLine
      exact sz1000 (by omega)
    have s1 := same_new (o := .lst [.int 0]) hz1
    have s2 := same_upd (o := .lst (List.replicate ((k : Int) + 1).toNat [L2.V.int 0]).flatten) s1 hz2
    have hfl : (List.replicate ((k : Int) + 1).toNat [L2.V.int 0]).flatten.length = k + 1 := by
      rw [List.length_flatten, List.map_replicate, List.sum_replicate_nat]
      show ((k : Int) + 1).toNat * 1 = k + 1
      omega
    refine ⟨q, z2, _, _, rfl, rfl, s2 _ _ hq, upd_same, sz1000 (by rw [hfl, List.length_map]; omega), fun z3 hz3 => ?_⟩
    have s3 := same_upd (o := .lst (cs.map L2.V.int ++ (List.replicate ((k : Int) + 1).toNat [L2.V.int 0]).flatten)) s2 hz3
    obtain ⟨c, hc⟩ : ∃ c : Int, (cs.map L2.V.int ++ (List.replicate ((k : Int) + 1).toNat [L2.V.int 0]).flatten)[k]? = some (.int c) := by
      have hkl : k < (cs.map L2.V.int ++ (List.replicate ((k : Int) + 1).toNat [L2.V.int 0]).flatten).length := by rw [List.length_append, hfl]; omega
      have hm := List.getElem_mem hkl
      rw [List.getElem?_eq_getElem hkl]
      rcases List.mem_append.mp hm with z | z
      · obtain ⟨c, _, e⟩ := List.mem_map.mp z
        exact ⟨c, by rw [← e]⟩
      · obtain ⟨l, h1, h2⟩ := List.mem_flatten.mp z
        have := (List.mem_replicate.mp h1).2
        subst this
        exact ⟨0, by rw [List.mem_singleton.mp h2]⟩
    refine ⟨_, rfl, z3, _, _, _, rfl, rfl, SqL.of upd_same, atI_nat hc, ?_⟩
    refine ⟨_, rfl, c, rfl, _, rfl, c, rfl, _, _, rfl, rfl, ⟨by decide, by decide, by decide⟩, _, _, rfl, rfl, .inr ⟨_, rfl, _, _, rfl, rfl, .inr ?_, ?_⟩⟩
    · exact ite01
    refine ⟨_, rfl, _, _, rfl, rfl, p1, _, rfl, _, _, rfl, rfl, .inl ⟨by decide, by decide⟩, _, _, rfl, rfl, _, _, rfl, rfl, _, _, rfl, rfl, .inr ⟨by decide, by decide⟩, _, _, rfl, rfl, p2, sz1000 (by show 3 ≤ 100000; decide), fun b hb => ?_⟩
    exact kk b _ (same_upd s3 hb) (s3.free hb) ⟨_, _, _, upd_same, by decide, by decide⟩
abbrev N_law_take : List Str := ["_law_box_here", "_law_many", "_law_found", "_law_once"]
theorem sc_law_take : FnScope N_law_take ["_law_box_here", "_law_many"] (defScope s_law_take) := ⟨rfl, rfl, rfl, by decide +kernel, rfl, by decide +kernel, by decide +kernel⟩
def spTake : Sp := fun vs H Q _ => ∃ (b : Addr) (m f : Nat), vs = [.ref b, iv m] ∧ BoxOk H b f ∧ f + 1 ≤ 1000000000 ∧ 0 < m ∧ m < 1000000 ∧ ∀ (r : Nat) H', r < m → BK b H H' → BoxOk H' b (f + 1) → Q (iv r) H'
theorem has_take (B : Bt mg) (T : Top K mg "_law_take" s_law_take) : Has P w K mg base "_law_take" ["_law_box_here", "_law_many"] 1 spTake := by
  obtain ⟨f, fd, F, hm⟩ := T.ex
  refine ⟨f, fd, ?_, hm, F.kp, F.binds fun _ _ _ _ _ _ us hl => match us, hl with | [_, _], _ => rfl⟩
  refine F.ok sc_law_take (fun vs H Q E h => ?_) (fun cdv A outer s H vs Q E hr h => ?_)
  · obtain ⟨b, m, f, rfl, _⟩ := h
    rfl
  · obtain ⟨b, m, f, rfl, ⟨x, y, z, hb, hz, hz2⟩, hf, hm, hm2, k⟩ := h
    refine ⟨_, (pss_cons (ps_if (pt_cmpR op_gt (pe_ix (k_ixl K rfl) (pv 0) pe_int (fun _ _ => rfl)) pe_int (nomark _)) (pss_cons (ps_asg (pe_callB call_divmod (by rfl) B.divmod_ (by decide +kernel) (pa_cons (pe_ix (k_ixl K rfl) (pv 0) pe_int (fun _ _ => rfl)) (pa_cons (pv 1) pa_nil))) (pg_tup rfl (pgs_cons (pg_sub (pv 0) pe_int set_list) (pgs_cons (pg_name (i := 2) sc_law_take.nd rfl (Or.inl rfl)) pgs_nil))))
      (pss_one (ps_ret (pv 2)))) pss_nil)
      (pss_cons (ps_asg (pe_op op_add (pe_ix (k_ixl K rfl) (pv 0) pe_int (fun _ _ => rfl)) pe_int) (pg_sub (pv 0) pe_int set_list))
      (pss_cons (ps_set (i := 3) sc_law_take.nd rfl (Or.inl rfl) (pe_op op_mod (pe_op op_mul (pe_op op_add (pe_ix (k_ixl K rfl) (pv 0) pe_int (fun _ _ => rfl)) (pe_op op_mul pe_int (pe_ix (k_ixl K rfl) (pv 0) pe_int (fun _ _ => rfl)))) (pe_op op_add pe_int (pe_ix (k_ixl K rfl) (pv 0) pe_int (fun _ _ => rfl)))) pe_int))
      (pss_cons (ps_asg (pe_op op_mod (pe_op op_add (pe_op op_mul (pv 3) (pe_op op_add (pe_op op_mod (pv 3) pe_int) pe_int)) (pe_ix (k_ixl K rfl) (pv 0) pe_int (fun _ _ => rfl))) pe_int) (pg_sub (pv 0) pe_int set_list))
      (pss_one (ps_ret (pe_op op_mod (pe_op op_fdiv (pe_op op_mod (pe_op op_mul (pe_ix (k_ixl K rfl) (pv 0) pe_int (fun _ _ => rfl)) (pe_op op_add (pe_op op_mod (pe_ix (k_ixl K rfl) (pv 0) pe_int (fun _ _ => rfl)) pe_int) pe_int)) pe_int) pe_int) (pv 1)))))))), ?_⟩
    have hbs : ∃ xs, H b = some (.lst xs) := ⟨_, hb⟩
    refine ⟨_, rfl, b, _, _, _, rfl, rfl, SqL.of hb, atI_nat (j := 0) rfl, _, _, rfl, rfl, _, rfl, ite2 (fun e => ?_) (fun e => ?_)⟩
    · refine ⟨_, rfl, b, _, _, _, rfl, rfl, SqL.of hb, atI_nat (j := 0) rfl, _, rfl, _, _, rfl, ⟨by omega, by omega⟩, fun t ht => ?_⟩
      have nbt : b ≠ t := ne_of_none hb ht
      obtain ⟨r, hr, er⟩ := mod_iv (x := x) hm
      refine ⟨t, _, rfl, SqT.of upd_same, rfl, _, _, rfl, _, rfl, b, _, _, 0, rfl, rfl, by rw [upd_ne nbt]; exact hb, rfl, _, _, rfl, rfl, _, rfl, ?_⟩
      rw [er]
      refine k r _ hr ⟨fun c o hc n => ?_, hbs, ⟨_, upd_same⟩⟩ ⟨_, _, _, upd_same, hz, by omega⟩
      rw [upd_ne n, upd_ne (ne_of_none hc ht)]
      exact hc
    · -- box[2] = box[2] + 1
      refine ⟨_, rfl, b, _, _, _, rfl, rfl, SqL.of hb, atI_nat (j := 2) rfl, _, _, rfl, rfl, _, rfl, b, _, _, 2, rfl, rfl, hb, rfl, ?_⟩
      have h1 : upd H b (.lst [.int x, .int y, .int (z + 1)]) b = some (.lst [.int x, .int y, .int (z + 1)]) := upd_same
      refine ⟨_, rfl, b, _, _, _, rfl, rfl, SqL.of upd_same, atI_nat (j := 1) rfl, _, rfl, b, _, _, _, rfl, rfl, SqL.of upd_same, atI_nat (j := 2) rfl, _, _, rfl, rfl, .inl ⟨by decide, by decide⟩, _, _, rfl, rfl,
        _, rfl, b, _, _, _, rfl, rfl, SqL.of upd_same, atI_nat (j := 2) rfl, _, _, rfl, rfl, _, _, rfl, rfl, .inr ⟨by omega, by omega⟩, _, _, rfl, rfl, p1, ?_⟩
      refine ⟨_, rfl, _, rfl, _, _, rfl, rfl, p3, _, _, rfl, rfl, _, _, rfl, rfl, .inr (modb p3 (by decide) ⟨by decide, by decide⟩), _, rfl, b, _, _, _, rfl, rfl, SqL.of upd_same, atI_nat (j := 2) rfl, _, _, rfl, rfl, _, _, rfl, rfl, p2, _, rfl, b, _, _, 1, rfl, rfl, upd_same, rfl, ?_⟩
      refine ⟨_, rfl, b, _, _, _, rfl, rfl, SqL.of upd_same, atI_nat (j := 1) rfl, _, rfl, b, _, _, _, rfl, rfl, SqL.of upd_same, atI_nat (j := 1) rfl, _, _, rfl, rfl, p4, _, _, rfl, rfl, _, _, rfl, rfl, .inr (modb p4 (by decide) ⟨by decide, by decide⟩), _, _, rfl, rfl, p5, _, _, rfl, rfl, ⟨by decide, by decide⟩, _, rfl, _, _, rfl, rfl, ?_, ?_⟩
      · show (0 : Int) < (m : Int)
        omega
      refine q_mod hm fun r hr => ?_
      refine k r _ hr ⟨fun c o hc n => ?_, hbs, ⟨_, upd_same⟩⟩ ⟨_, _, _, upd_same, by omega, by omega⟩
      rw [upd_ne n, upd_ne n]
      exact hc
abbrev N_law_folded : List Str := ["_law_script", "_law_many", "_law_cells", "_law_k", "_law_cell"]
theorem sc_law_folded : FnScope N_law_folded ["_law_script", "_law_many"] (defScope s_law_folded) := ⟨rfl, rfl, rfl, by decide +kernel, rfl, by decide +kernel, by decide +kernel⟩
def spFolded (K : PySem.W.Frag) : Sp := fun vs H Q _ => ∃ (q : Addr) (cs : List Int), vs = [.ref q, .int 10] ∧ SqL K H q (cs.map .int) ∧ cs.length ≤ 1000 ∧ ∀ D H' (ds : List Int), Same H H' → H D = none → H' D = some (.lst (ds.map .int)) → ds.length ≤ 10 → Q (.ref D) H'
theorem has_folded (B : Bt mg) (T : Top K mg "_law_folded" s_law_folded) : Has P w K mg base "_law_folded" ["_law_script", "_law_many"] 1 (spFolded K) := by
  obtain ⟨f, fd, F, hm⟩ := T.ex
  refine ⟨f, fd, ?_, hm, F.kp, F.binds fun _ _ _ _ _ _ us hl => match us, hl with | [_, _], _ => rfl⟩
  refine F.ok sc_law_folded (fun vs H Q E h => ?_) (fun cdv A outer s H vs Q E hr h => ?_)
  · obtain ⟨q, cs, rfl, _⟩ := h
    rfl
  · obtain ⟨q, cs, rfl, hq, hl, k⟩ := h
    refine ⟨_, (pss_cons (ps_set (i := 2) sc_law_folded.nd rfl (Or.inl rfl) (pe_callTy (k_list K rfl) (by rfl) B.list_ (by decide +kernel) (pa_cons (pe_slice (k_sll K rfl) (pv 0) po_none (po_some (pv 1))) pa_nil)))
      (pss_cons (ps_for PassesOwn.never rfl (pi_enum (by rfl) B.enumerate_ (pa_cons (pe_slice (k_sll K rfl) (pv 0) (po_some (pv 1)) (po_some pe_int)) pa_nil)) (pg_tup rfl (pgs_cons (pg_name (i := 3) sc_law_folded.nd rfl (Or.inl rfl)) (pgs_cons (pg_name (i := 4) sc_law_folded.nd rfl (Or.inl rfl)) pgs_nil)))
      (pss_one (ps_asg (pe_op op_add (pe_ix (k_ixl K rfl) (pv 2) (pe_op op_mod (pv 3) (pv 1)) (fun _ _ => rfl)) (pe_op op_mul (pv 4) (pe_op op_add (pv 3) pe_int))) (pg_sub (pv 2) (pe_op op_mod (pv 3) (pv 1)) set_list))))
      (pss_one (ps_ret (pv 2))))), ?_⟩
    refine ⟨_, rfl, _, rfl, 10, rfl, q, _, rfl, hq, fun z1 hz1 => ?_⟩
    rw [show cutV (cs.map L2.V.int) none (some 10) = (cs.map L2.V.int).take 10 from cut_to (j := 10)]
    have s1 := same_new (o := .lst ((cs.map L2.V.int).take 10)) hz1
    refine ⟨z1, _, rfl, .inl (SqL.of upd_same), fun cl hcl => ?_⟩
    have s2 := same_upd (o := .lst ((cs.map L2.V.int).take 10)) s1 hcl
    have hcl0 := s1.free hcl
    refine ⟨_, rfl, _, rfl, 10, rfl, 63, rfl, q, _, rfl, s2.seq hq, fun z2 hz2 => ?_⟩
    obtain ⟨es, hes⟩ : ∃ es, (cs.drop (min 10 cs.length)).take (min 63 cs.length - min 10 cs.length) = es := ⟨_, rfl⟩
    rw [show cutV (cs.map L2.V.int) (some 10) (some 63) = es.map L2.V.int from by rw [← hes, List.map_take, List.map_drop]; have := cut_mid (xs := cs.map L2.V.int) (a := 10) (b := 63); rw [List.length_map] at this; exact this]
    have hel : 0 < es.length → 10 ≤ cs.length := by
      intro z
      rw [← hes, List.length_take, List.length_drop] at z
      omega
    have helt : es.length ≤ 1000 := by
      rw [← hes, List.length_take, List.length_drop]
      omega
    have s3 := same_upd (o := .lst (es.map L2.V.int)) s2 hz2
    have ncz : cl ≠ z2 := ne_of_none upd_same hz2
    refine ⟨z2, es.map L2.V.int, rfl, SqL.of upd_same, for_enumL (fun i σ H' => ∃ (ds : List Int) (kv cv : Option L2.V), σ = [some (.ref q), some (.int 10), some (.ref cl), kv, cv] ∧ Same H H' ∧ H' z2 = some (.lst (es.map .int)) ∧ H' cl = some (.lst (ds.map .int)) ∧ ds.length = min 10 cs.length)
      ⟨cs.take 10, none, none, rfl, s3, upd_same, by rw [upd_ne ncz, upd_same, List.map_take], by rw [List.length_take]⟩ (fun i σ H' ⟨_, _, _, _, _, h, _⟩ => SqL.of h) ?_ ?_⟩
    · rintro i v T σ H' hi ⟨ds, kv, cv, rfl, s4, h1, h2, h3⟩ hT
      obtain ⟨c, hc, rfl⟩ := map_get hi
      have hcs := hel (by have := len_lt hc; omega)
      have ncT : cl ≠ T := ne_of_none h2 hT
      refine ⟨T, _, rfl, SqT.of upd_same, rfl, _, _, rfl, _, _, rfl, rfl, ?_⟩
      have hj : i % 10 < ds.length := by omega
      have hj2 : i % 10 < (ds.map L2.V.int).length := by rw [List.length_map]; exact hj
      have hat : atI (ds.map L2.V.int) ((i : Int) % 10) = some (.int ds[i % 10]) := atI_nat (j := i % 10) (get_map (by simp [hj]))
      refine ⟨_, rfl, _, rfl, _, rfl, _, _, rfl, rfl, (show (0 : Int) < 10 from by decide), cl, _, _, _, rfl, rfl, SqL.of (by rw [upd_ne ncT]; exact h2), hat, _, rfl, _, rfl, _, _, rfl, rfl, _, _, rfl, rfl, .inr ?_, _, _, rfl, rfl, _, rfl, _, rfl, _, rfl, _, _, rfl, rfl, (show (0 : Int) < 10 from by decide), cl, _, _, i % 10, rfl, rfl, by rw [upd_ne ncT]; exact h2, Evl.ixN_nat (j := i % 10) hj2, ?_⟩
      · have := len_lt hc
        exact ⟨by omega, by omega⟩
      refine ⟨ds.set (i % 10) (ds[i % 10] + c * ((i : Int) + 2)), _, _, rfl, same_mut (same_upd s4 hT) hcl0, ?_, ?_, by rw [List.length_set]; exact h3⟩
      · rw [upd_ne ncz.symm, upd_ne (ne_of_none h1 hT)]; exact h1
      · rw [upd_same, List.map_set]
    · rintro σ H' ⟨ds, kv, cv, rfl, s4, h1, h2, h3⟩
      exact ⟨_, rfl, k cl H' ds s4 hcl0 h2 (by omega)⟩
end
end K18
/-! K18 mathematics, part C: webs by functions; rings and lines. -/
namespace K18
open PySem PySem.Spec PyProof.Rows L2
def mkW (n : Nat) (dg : Nat → Nat) (fn : Nat → Nat → Pt) : Web := (List.range n).map fun r => (List.range (dg r)).map (fn r)
section
variable {n : Nat} {dg : Nat → Nat} {fn : Nat → Nat → Pt}
theorem mkW_len : (mkW n dg fn).length = n := by unfold mkW; simp
theorem mkW_row {r : Nat} (h : r < n) : (mkW n dg fn)[r]? = some ((List.range (dg r)).map (fn r)) := rg_get h
theorem mkW_deg {r : Nat} (h : r < n) : deg (mkW n dg fn) r = dg r := by rw [deg_of (mkW_row h)]; simp
theorem mkW_lt {r d : Nat} (h : d < deg (mkW n dg fn) r) : r < n := by have := lt_of_deg h; rwa [mkW_len] at this
theorem mkW_nxt {r d : Nat} (h : r < n) (hd : d < dg r) : nxt (mkW n dg fn) r d = fn r d := nxt_of (mkW_row h) (rg_get hd)
theorem mkW_valid (h : ∀ r d, r < n → d < dg r → (fn r d).1 < n ∧ (fn r d).2 < dg (fn r d).1 ∧ fn (fn r d).1 (fn r d).2 = (r, d)) : Valid (mkW n dg fn) := by
  have key : ∀ r d, d < deg (mkW n dg fn) r → r < n ∧ d < dg r ∧ nxt (mkW n dg fn) r d = fn r d := fun r d hd => by
    have hr := mkW_lt hd
    rw [mkW_deg hr] at hd
    exact ⟨hr, hd, mkW_nxt hr hd⟩
  refine ⟨fun r d hd => ?_, fun r d hd => ?_, fun r d hd => ?_⟩
  · obtain ⟨h1, h2, h3⟩ := key r d hd
    rw [h3, mkW_len]; exact (h r d h1 h2).1
  · obtain ⟨h1, h2, h3⟩ := key r d hd
    obtain ⟨a, b, c⟩ := h r d h1 h2
    rw [h3, mkW_deg a]; exact b
  · obtain ⟨h1, h2, h3⟩ := key r d hd
    obtain ⟨a, b, c⟩ := h r d h1 h2
    rw [h3, mkW_nxt a b]; exact c
theorem mkW_doors {c : Nat} (h : ∀ r, r < n → dg r ≤ c) (r : Nat) : deg (mkW n dg fn) r ≤ c := by
  by_cases hr : r < n
  · rw [mkW_deg hr]; exact h r hr
  · have : deg (mkW n dg fn) r = 0 := by
      unfold deg
      rw [List.getD_eq_getElem?_getD, List.getElem?_eq_none (by rw [mkW_len]; omega)]; rfl
    omega
end
def ringF (m r d : Nat) : Pt := if d = 0 then (if r + 1 = m then 0 else r + 1, 1) else (if r = 0 then m - 1 else r - 1, 0)
def ringW (m : Nat) : Web := mkW m (fun _ => 2) (ringF m)
theorem ring_valid (m : Nat) : Valid (ringW m) := by
  refine mkW_valid fun r d hr hd => ?_
  have hd : d = 0 ∨ d = 1 := by omega
  rcases hd with rfl | rfl
  · have e : ringF m r 0 = (if r + 1 = m then 0 else r + 1, 1) := if_pos rfl
    rw [e]
    refine ⟨?_, by show 1 < 2; omega, ?_⟩
    · show (if r + 1 = m then 0 else r + 1) < m
      split <;> omega
    · show (if (1 : Nat) = 0 then _ else ((if (if r + 1 = m then 0 else r + 1) = 0 then m - 1 else (if r + 1 = m then 0 else r + 1) - 1), 0)) = (r, 0)
      rw [if_neg (by decide)]
      by_cases h : r + 1 = m
      · rw [if_pos h, if_pos rfl]; congr 1; omega
      · rw [if_neg h, if_neg (by omega)]; rfl
  · have e : ringF m r 1 = (if r = 0 then m - 1 else r - 1, 0) := if_neg (by decide)
    rw [e]
    refine ⟨?_, by show 0 < 2; omega, ?_⟩
    · show (if r = 0 then m - 1 else r - 1) < m
      split <;> omega
    · show (if (0 : Nat) = 0 then ((if (if r = 0 then m - 1 else r - 1) + 1 = m then 0 else (if r = 0 then m - 1 else r - 1) + 1), 1) else _) = (r, 1)
      rw [if_pos rfl]
      by_cases h : r = 0
      · rw [if_pos h, if_pos (by omega), h]
      · rw [if_neg h, if_neg (by omega)]; congr 1; omega
def lineF (m r d : Nat) : Pt := if d = 0 then (if 0 < r then (r - 1, 1) else (0, 0)) else (if r + 1 < m then (r + 1, 0) else (r, 1))
def lineW (m : Nat) : Web := mkW m (fun _ => 2) (lineF m)
theorem line_valid (m : Nat) : Valid (lineW m) := by
  refine mkW_valid fun r d hr hd => ?_
  have hd : d = 0 ∨ d = 1 := by omega
  rcases hd with rfl | rfl
  · have e : lineF m r 0 = if 0 < r then (r - 1, 1) else (0, 0) := if_pos rfl
    rw [e]
    by_cases h : 0 < r
    · rw [if_pos h]
      refine ⟨by show r - 1 < m; omega, by show 1 < 2; omega, ?_⟩
      show (if (1 : Nat) = 0 then _ else (if r - 1 + 1 < m then (r - 1 + 1, 0) else (r - 1, 1))) = (r, 0)
      rw [if_neg (by decide), if_pos (by omega)]; congr 1; omega
    · rw [if_neg h]
      refine ⟨by show 0 < m; omega, by show 0 < 2; omega, ?_⟩
      show (if (0 : Nat) = 0 then (if 0 < 0 then _ else (0, 0)) else _) = (r, 0)
      rw [if_pos rfl, if_neg (by decide)]; congr 1; omega
  · have e : lineF m r 1 = if r + 1 < m then (r + 1, 0) else (r, 1) := if_neg (by decide)
    rw [e]
    by_cases h : r + 1 < m
    · rw [if_pos h]
      refine ⟨h, by show 0 < 2; omega, ?_⟩
      show (if (0 : Nat) = 0 then (if 0 < r + 1 then (r + 1 - 1, 1) else (0, 0)) else _) = (r, 1)
      rw [if_pos rfl, if_pos (by omega)]; rfl
    · rw [if_neg h]
      refine ⟨hr, by show 1 < 2; omega, ?_⟩
      show (if (1 : Nat) = 0 then _ else (if r + 1 < m then (r + 1, 0) else (r, 1))) = (r, 1)
      rw [if_neg (by decide), if_neg h]
end K18
namespace K18
open PySem PySem.Spec PyProof.Rows L2
section
variable {P : Program} {w : World} {K : PySem.W.Frag} {mg : Str → Option Value} {base : Heap}
/-! _law_turn -/
theorem rgc_up {a b c : Int} (ha : 0 ≤ a ∧ a ≤ 100000) (hb : -10 ≤ b ∧ b ≤ 100000) (hc : 1 ≤ c ∧ c ≤ 100000) : ∃ n : Nat, RgC a b c n ∧ ∀ i : Nat, i < n → a + (i : Int) * c < b := by
  have hz : Builtin.Range.rangeSize a b c = if a < b then (b - a - 1) / c + 1 else 0 := by
    unfold Builtin.Range.rangeSize
    rw [if_pos (by omega : c > 0)]
  have hd : a < b → 0 ≤ (b - a - 1) / c ∧ (b - a - 1) / c ≤ b - a - 1 := fun h => ⟨Int.ediv_nonneg (by omega) (by omega), Int.ediv_le_self c (by omega)⟩
  have hz1 : 0 ≤ Builtin.Range.rangeSize a b c ∧ Builtin.Range.rangeSize a b c ≤ 200000 := by
    rw [hz]
    split
    · rename_i h
      have := hd h
      omega
    · omega
  refine ⟨(Builtin.Range.rangeSize a b c).toNat, ⟨by omega, by omega, ?_, by omega⟩, fun i hi => ?_⟩
  · unfold Builtin.Range.small Builtin.Range.rangeFitsLong
    rw [if_pos (by omega : c > 0)]
    simp only [Bool.and_eq_true, Bool.or_eq_true, decide_eq_true_eq, beq_iff_eq]
    refine ⟨⟨⟨⟨?_, ?_⟩, ?_⟩, ?_⟩, .inr ?_⟩ <;> omega
  · rw [hz] at hi
    by_cases h : a < b
    · rw [if_pos h] at hi
      have h1 := hd h
      have h2 : (i : Int) ≤ (b - a - 1) / c := by omega
      have h3 := Int.ediv_mul_le (b - a - 1) (show c ≠ 0 by omega)
      have h4 : (i : Int) * c ≤ (b - a - 1) / c * c := Int.mul_le_mul_of_nonneg_right h2 (by omega)
      omega
    · rw [if_neg h] at hi
      exact (Nat.not_lt_zero _ hi).elim
/-- an order of the numbers below m, back again when told so -/
structure TurnOk (π : List Nat) (m : Nat) (own : Bool) : Prop where
  len : π.length = m
  lt : ∀ i, i < m → nn π i < m
  inj : ∀ i j, i < m → j < m → nn π i = nn π j → i = j
  surj : ∀ k, k < m → ∃ i, i < m ∧ nn π i = k
  back : own = true → ∀ i, i < m → nn π (nn π i) = i
theorem perm_get {L : List Nat} {m : Nat} (h : L.Perm (List.range m)) : L.length = m ∧ (∀ i, i < m → nn L i < m) ∧ (∀ i j, i < m → j < m → nn L i = nn L j → i = j) ∧ ∀ k, k < m → ∃ i, i < m ∧ nn L i = k := by
  have hl : L.length = m := by rw [h.length_eq, List.length_range]
  have hn : L.Nodup := h.nodup_iff.mpr List.nodup_range
  refine ⟨hl, fun i hi => ?_, fun i j hi hj e => ?_, fun k hk => ?_⟩
  · exact List.mem_range.mp (h.mem_iff.mp (List.mem_of_getElem? (nn_get (by omega))))
  · have h1 := nn_get (ns := L) (i := i) (by omega)
    have h2 := nn_get (ns := L) (i := j) (by omega)
    rw [← e] at h2
    exact (List.getElem?_inj (by omega) hn).mp (h1.trans h2.symm)
  · obtain ⟨i, hi⟩ := List.mem_iff_getElem?.mp (h.mem_iff.mpr (List.mem_range.mpr hk))
    exact ⟨i, by have := len_lt hi; omega, nn_of hi⟩
theorem TurnOk.of {L : List Nat} {m : Nat} (h : L.Perm (List.range m)) : TurnOk L m false := let ⟨a, b, c, d⟩ := perm_get h; ⟨a, b, c, d, fun z => nomatch z⟩
/-- swaps of pairs of the order L, so many done -/
structure SwOk (t L : List Nat) (m i : Nat) : Prop where
  len : t.length = m
  lt : ∀ x, x < m → nn t x < m
  back : ∀ x, x < m → nn t (nn t x) = x
  old : ∀ x, x < m → (∀ j, j < 2 * i → nn L j ≠ x) → nn t x = x
theorem nn_set {t : List Nat} {x v y : Nat} (h : x < t.length) : nn (t.set x v) y = if y = x then v else nn t y := by
  unfold nn
  rw [List.getD_eq_getElem?_getD, List.getD_eq_getElem?_getD, List.getElem?_set]
  by_cases e : y = x
  · subst e; rw [if_pos rfl, if_pos rfl, if_pos h]; rfl
  · rw [if_neg (Ne.symm e), if_neg e]
theorem SwOk.start (L : List Nat) (m : Nat) : SwOk (List.range m) L m 0 := by
  have h : ∀ x, x < m → nn (List.range m) x = x := fun x hx => nn_of (List.getElem?_range hx)
  exact ⟨List.length_range, fun x hx => by rw [h x hx]; exact hx, fun x hx => by rw [h x hx, h x hx], fun x hx _ => h x hx⟩
theorem SwOk.next {t L : List Nat} {m i : Nat} (h : SwOk t L m i) (hL : L.Perm (List.range m)) (hi : 2 * i + 1 < m) : SwOk ((t.set (nn L (2 * i)) (nn L (2 * i + 1))).set (nn L (2 * i + 1)) (nn L (2 * i))) L m (i + 1) := by
  obtain ⟨l1, l2, l3, _⟩ := perm_get hL
  have ha := l2 (2 * i) (by omega)
  have hb := l2 (2 * i + 1) hi
  have hab : nn L (2 * i) ≠ nn L (2 * i + 1) := fun e => by have := l3 _ _ (by omega) hi e; omega
  have oa := h.old _ ha fun j hj e => by have := l3 _ _ (by omega) (by omega) e; omega
  have ob := h.old _ hb fun j hj e => by have := l3 _ _ (by omega) hi e; omega
  have hlen := h.len
  have hn : ∀ y, nn ((t.set (nn L (2 * i)) (nn L (2 * i + 1))).set (nn L (2 * i + 1)) (nn L (2 * i))) y = if y = nn L (2 * i + 1) then nn L (2 * i) else if y = nn L (2 * i) then nn L (2 * i + 1) else nn t y := fun y => by
    rw [nn_set (by rw [List.length_set]; omega), nn_set (by omega)]
  have hx : ∀ x, x < m → x ≠ nn L (2 * i) → x ≠ nn L (2 * i + 1) → nn t x ≠ nn L (2 * i) ∧ nn t x ≠ nn L (2 * i + 1) := fun x hx h1 h2 =>
    ⟨fun e => by have := h.back x hx; rw [e, oa] at this; exact h1 this.symm, fun e => by have := h.back x hx; rw [e, ob] at this; exact h2 this.symm⟩
  refine ⟨by rw [List.length_set, List.length_set]; exact hlen, fun x hxm => ?_, fun x hxm => ?_, fun x hxm hj => ?_⟩
  · rw [hn]
    split
    · exact ha
    · split
      · exact hb
      · exact h.lt x hxm
  · by_cases e1 : x = nn L (2 * i + 1)
    · rw [hn x, if_pos e1, hn, if_neg hab, if_pos rfl, e1]
    · by_cases e2 : x = nn L (2 * i)
      · rw [hn x, if_neg e1, if_pos e2, hn, if_pos rfl, e2]
      · obtain ⟨h1, h2⟩ := hx x hxm e2 e1
        rw [hn x, if_neg e1, if_neg e2, hn, if_neg h2, if_neg h1, h.back x hxm]
  · rw [hn, if_neg (fun e => hj (2 * i + 1) (by omega) e.symm), if_neg (fun e => hj (2 * i) (by omega) e.symm)]
    exact h.old x hxm fun j hj2 => hj j (by omega)
theorem SwOk.done {t L : List Nat} {m i : Nat} {own : Bool} (h : SwOk t L m i) : TurnOk t m own :=
  ⟨h.len, h.lt, fun x y hx hy e => by rw [← h.back x hx, ← h.back y hy, e], fun k hk => ⟨nn t k, h.lt k hk, h.back k hk⟩, fun _ => h.back⟩
abbrev N_law_turn : List Str := ["_law_box_here", "_law_many", "_law_own", "_law_order", "_law_k", "_law_turn_here", "_law_one", "_law_other"]
theorem sc_law_turn : FnScope N_law_turn ["_law_box_here", "_law_many", "_law_own"] (defScope s_law_turn) := ⟨rfl, rfl, rfl, by decide +kernel, rfl, by decide +kernel, by decide +kernel⟩
def spTurn : Sp := fun vs H Q _ => ∃ (b : Addr) (m f : Nat) (own : Bool), vs = [.ref b, iv m, .bl own] ∧ BoxOk H b f ∧ f + m ≤ 1000000000 ∧ m ≤ 1000 ∧ ∀ q H' π, BK b H H' → BoxOk H' b (f + m) → H' q = some (.tup (π.map iv)) → TurnOk π m own → Q (.ref q) H'
theorem has_turn (B : Bt mg) (T : Top K mg "_law_turn" s_law_turn) (H_law_take_ : Has P w K mg base "_law_take" ["_law_box_here", "_law_many"] 1 spTake) : Has P w K mg base "_law_turn" ["_law_box_here", "_law_many", "_law_own"] 2 spTurn := by
  obtain ⟨f_law_take_, fd_law_take_, G_law_take_, m_law_take_, kp_law_take_, b_law_take_⟩ := H_law_take_.ex
  obtain ⟨f, fd, F, hm⟩ := T.ex
  refine ⟨f, fd, ?_, hm, F.kp, F.binds fun _ _ _ _ _ _ us hl => match us, hl with | [_, _, _], _ => rfl⟩
  refine F.ok sc_law_turn (fun vs H Q E h => ?_) (fun cdv A outer s H vs Q E hr h => ?_)
  · obtain ⟨b, m, f, own, rfl, _⟩ := h
    rfl
  · obtain ⟨b, m, f, own, rfl, hb, hf, hm, k⟩ := h
    refine ⟨_, (pss_cons (ps_set (i := 3) sc_law_turn.nd rfl (Or.inl rfl) (pe_lst pa_nil))
      (pss_cons (ps_for PassesOwn.never rfl (pi_range1 (by rfl) B.range_ (pa_cons (pv 1) pa_nil)) (pg_name (i := 4) sc_law_turn.nd rfl (Or.inl rfl))
      (pss_one (ps_expr (k_bm K rfl PySem.F.plainAttrs_list PySem.F.slot_list_insert PySem.F.type_list_insert mt_insert (pv 3) (pa_cons (pe_call G_law_take_ (hr.mono (by decide)) (by rfl) m_law_take_ kp_law_take_ b_law_take_ .nil pass0 (pa_cons (pv 0) (pa_cons (pe_op op_add (pv 4) pe_int) pa_nil))) (pa_cons (pv 4) pa_nil))))))
      (pss_cons (ps_if (pt_not (pt_val (pv 2))) (pss_one (ps_ret (pe_callTy (k_tuple K rfl) (by rfl) B.tuple_ (by decide +kernel) (pa_cons (pv 3) pa_nil)))) pss_nil)
      (pss_cons (ps_set (i := 5) sc_law_turn.nd rfl (Or.inl rfl) (pe_listRg rfl (by rfl) B.list_ (prg_1 (by rfl) B.range_ (pv 1))))
      (pss_cons (ps_for PassesOwn.never rfl (pi_range3 (by rfl) B.range_ (pa_cons pe_int (pa_cons (pe_op op_sub (pv 1) pe_int) (pa_cons pe_int pa_nil)))) (pg_name (i := 4) sc_law_turn.nd rfl (Or.inl rfl))
      (pss_cons (ps_par (i := 6) (j := 7) (by rfl) sc_law_turn.nd rfl rfl (by decide) rfl rfl (pa_cons (pe_ix (k_ixl K rfl) (pv 3) (pv 4) (fun _ _ => rfl)) (pa_cons (pe_ix (k_ixl K rfl) (pv 3) (pe_op op_add (pv 4) pe_int) (fun _ _ => rfl)) pa_nil)) (by rfl))
      (pss_cons (ps_asg (pv 7) (pg_sub (pv 5) (pv 6) set_list))
      (pss_one (ps_asg (pv 6) (pg_sub (pv 5) (pv 7) set_list))))))
      (pss_one (ps_ret (pe_callTy (k_tuple K rfl) (by rfl) B.tuple_ (by decide +kernel) (pa_cons (pv 5) pa_nil))))))))), ?_⟩
    refine ⟨Nat.zero_le _, fun ol hol => ?_⟩
    have nob : ol ≠ b := (BK.refl hb.some).ne hol
    refine ⟨_, rfl, (m : Int), rfl, by omega, by omega, for_range (lo := 0) (n := _) (fun i σ H' => ∃ (L : List Nat) (kv : Option L2.V), σ = [some (.ref b), some (iv m), some (.bl own), some (.ref ol), kv, none, none, none] ∧ BK b H H' ∧ BoxOk H' b (f + i) ∧ H' ol = some (.lst (L.map iv)) ∧ L.Perm (List.range i))
      ⟨[], none, rfl, .of (same_new hol) hb.some, hb.same (same_new hol), upd_same, List.Perm.refl _⟩ ?_ ?_⟩
    · rintro i σ H' hi ⟨L, kv, rfl, k1, b1, h1, h2⟩
      have hi : i < m := by rw [Int.toNat_natCast] at hi; exact hi
      have hLl : L.length = i := by rw [h2.length_eq, List.length_range]
      rw [show (0 : Int) + (i : Int) = (i : Int) from Int.zero_add _]
      refine ⟨_, rfl, .inl ⟨rfl, _, SqL.of h1⟩, _, rfl, _, rfl, _, _, rfl, rfl, b, i + 1, f + i, rfl, b1, by omega, by omega, by omega, fun r H2 hr2 k2 b2 => ?_⟩
      have h3 := k2.keep _ _ h1 nob
      refine ⟨_, rfl, ol, _, (r : Int), iv i, rfl, rfl, h3, sl1000 (by rw [List.length_map]; omega), by omega, by omega, ?_⟩
      rw [Int.toNat_natCast]
      refine ⟨L.take r ++ [i] ++ L.drop r, _, rfl, (k1.trans k2).mut hol, b2.keep (upd_ne nob.symm), ?_, ?_⟩
      · rw [upd_same, List.map_append, List.map_append, List.map_take, List.map_drop]; rfl
      · rw [List.range_succ, show L.take r ++ [i] ++ L.drop r = L.take r ++ i :: L.drop r by simp]
        refine (List.perm_middle).trans ?_
        rw [List.take_append_drop]
        exact (List.Perm.cons i h2).trans (List.perm_append_singleton i (List.range i)).symm
    · rintro σ H1 ⟨L, kv, rfl, k1, b1, h1, h2⟩
      rw [Int.toNat_natCast] at b1 h2
      obtain ⟨l1, l2, l3, l4⟩ := perm_get h2
      refine ⟨_, rfl, own, rfl, ?_⟩
      cases own with
      | false =>
        refine iteT ?_
        refine ⟨_, rfl, ol, _, rfl, .inl ⟨SqL.of h1, fun q hq => ?_⟩⟩
        exact k q _ L (k1.new hq) (b1.same (same_new hq)) upd_same (.of h2)
      | true =>
        refine iteF ?_
        refine ⟨_, rfl, _, rfl, RgOk.of_le (by decide) (by omega) (by decide) (by omega), fun tl htl => ?_⟩
        have k2 := k1.new (o := .lst (rgV 0 (m : Int))) htl
        have htl0 := k1.free htl
        have nlt : ol ≠ tl := ne_of_none h1 htl
        have ntb : tl ≠ b := k1.ne htl
        have erg : rgV 0 (m : Int) = (List.range m).map iv := by
          unfold rgV
          rw [show ((m : Int) - 0).toNat = m by omega]
          exact List.map_congr_left fun i _ => by rw [Int.zero_add]
        obtain ⟨n, hrg, hrl⟩ := rgc_up (a := 0) (b := (m : Int) - 1) (c := 2) ⟨by decide, by decide⟩ ⟨by omega, by omega⟩ ⟨by decide, by decide⟩
        refine ⟨_, rfl, _, _, rfl, rfl, 0, (m : Int) - 1, 2, n, rfl, hrg, for_rangeC (lo := 0) (c := 2) (n := n) (fun i σ H' => ∃ (t : List Nat) (kv ov tv : Option L2.V), σ = [some (.ref b), some (iv m), some (.bl true), some (.ref ol), kv, some (.ref tl), ov, tv] ∧ BK b H H' ∧ BoxOk H' b (f + m) ∧ H' ol = some (.lst (L.map iv)) ∧ H' tl = some (.lst (t.map iv)) ∧ SwOk t L m i)
          ⟨List.range m, _, none, none, rfl, k2, b1.same (same_new htl), by rw [upd_ne nlt]; exact h1, by rw [upd_same, erg], SwOk.start L m⟩ ?_ ?_⟩
        · rintro i σ H' hi ⟨t, kv, ov, tv, rfl, k3, b3, h3, h4, hs⟩
          have hlt := hrl i hi
          have hi2 : 2 * i + 1 < m := by omega
          have e0 : (0 : Int) + (i : Nat) * 2 = ((2 * i : Nat) : Int) := by omega
          rw [e0]
          have hts := hs.len
          have ha := l2 (2 * i) (by omega)
          have hbb := l2 (2 * i + 1) hi2
          have at1 : atI (L.map iv) ((2 * i : Nat) : Int) = some (iv (nn L (2 * i))) := atI_nat (get_map (nn_get (by omega)))
          have at2 : atI (L.map iv) (((2 * i : Nat) : Int) + 1) = some (iv (nn L (2 * i + 1))) := atI_nat (j := 2 * i + 1) (get_map (nn_get (by omega)))
          refine ⟨_, rfl, _, rfl, ol, _, _, _, rfl, rfl, SqL.of h3, at1, _, rfl, _, rfl, _, _, rfl, rfl, ol, _, _, _, rfl, rfl, SqL.of h3, at2, _, _, rfl, ?_⟩
          refine ⟨_, rfl, _, rfl, _, rfl, tl, _, _, nn L (2 * i), rfl, rfl, h4, Evl.ixN_nat (by rw [List.length_map]; omega), ?_⟩
          refine ⟨_, rfl, _, rfl, _, rfl, tl, _, _, nn L (2 * i + 1), rfl, rfl, upd_same, Evl.ixN_nat (by rw [List.length_set, List.length_map]; omega), ?_⟩
          refine ⟨_, _, _, _, rfl, (k3.mut htl0).mut htl0, b3.keep (by rw [upd_ne ntb.symm, upd_ne ntb.symm]), by rw [upd_ne nlt, upd_ne nlt]; exact h3, ?_, hs.next h2 hi2⟩
          rw [upd_same, List.map_set, List.map_set]
        · rintro σ H' ⟨t, kv, ov, tv, rfl, k3, b3, h3, h4, hs⟩
          refine ⟨_, rfl, tl, _, rfl, .inl ⟨SqL.of h4, fun q hq => ?_⟩⟩
          exact k q _ t (k3.new hq) (b3.same (same_new hq)) upd_same hs.done
end
end K18
namespace K18
open PySem PySem.Spec PyProof.Rows L2
section
variable {P : Program} {w : World} {K : PySem.W.Frag} {mg : Str → Option Value} {base : Heap}
/-! _law_ring, _law_line, _law_way, _law_any_way, _law_renamed -/
theorem slA_q {K : PySem.W.Frag} {a : Addr} {xs : List V} {lo hi : Option Int} {H : Hp} {Q : VK} (h : H a = some (.tup xs)) (q : ∀ b H', Same H H' → H' b = some (.tup (cutV xs lo hi)) → Q (.ref b) H') : rSlA K (.ref a) lo hi H Q := by
  refine ⟨a, xs, rfl, SqT.of h, fun ⟨e1, e2⟩ => q a H (Same.refl _) ?_, fun _ p hp => q p _ (same_new hp) upd_same⟩
  rw [h]
  unfold cutV
  rw [e1, e2, List.drop_zero, Nat.sub_zero, List.take_length]
theorem catA_q {K : PySem.W.Frag} {a c : Addr} {xs ys : List V} {H : Hp} {Q : VK} (h : H a = some (.tup xs)) (h2 : H c = some (.tup ys)) (hl : xs.length + ys.length ≤ 100000) (q : ∀ b H', Same H H' → H' b = some (.tup (xs ++ ys)) → Q (.ref b) H') : rCatA K (.ref a) (.ref c) H Q := by
  refine ⟨a, c, xs, ys, rfl, rfl, SqT.of h, SqT.of h2, sz1000 hl, fun e => q c H (Same.refl _) ?_, fun _ e => q a H (Same.refl _) ?_, fun _ _ p hp => q p _ (same_new hp) upd_same⟩
  · rw [h2, e]; rfl
  · rw [h, e, List.append_nil]
/-- a web as the builders give it -/
structure Made (H : Hp) (v : V) (W : Web) (n : Nat) : Prop where
  web : WebV H v W
  ok : Valid W
  len : W.length = n
  doors : ∀ r, deg W r ≤ 100
abbrev N_law_ring : List Str := ["_law_many", "_law_room"]
theorem sc_law_ring : FnScope N_law_ring ["_law_many"] (defScope s_law_ring) := ⟨rfl, rfl, rfl, by decide +kernel, rfl, by decide +kernel, by decide +kernel⟩
def spRing : Sp := fun vs H Q _ => ∃ m : Nat, vs = [iv m] ∧ 0 < m ∧ m ≤ 24 ∧ ∀ v H' W, Same H H' → Made H' v W m → Q v H'
theorem ring_on {r m : Nat} (hr : r < m) : ((r : Int) + 1) % (m : Int) = ((ringF m r 0).1 : Int) := by
  have e : (ringF m r 0).1 = if r + 1 = m then 0 else r + 1 := by unfold ringF; rw [if_pos rfl]
  rw [e]
  by_cases h : r + 1 = m
  · rw [if_pos h, show ((r : Int) + 1) = (m : Int) by omega, Int.emod_self]; rfl
  · rw [if_neg h, Int.emod_eq_of_lt (by omega) (by omega)]; rfl
theorem ring_back {r m : Nat} (hr : r < m) : ((r : Int) - 1) % (m : Int) = ((ringF m r 1).1 : Int) := by
  have e : (ringF m r 1).1 = if r = 0 then m - 1 else r - 1 := by unfold ringF; rw [if_neg (by decide)]
  rw [e]
  by_cases h : r = 0
  · rw [if_pos h, ← Int.add_emod_right, Int.emod_eq_of_lt (by omega) (by omega)]; omega
  · rw [if_neg h, Int.emod_eq_of_lt (by omega) (by omega)]; omega
theorem has_ring (B : Bt mg) (T : Top K mg "_law_ring" s_law_ring) : Has P w K mg base "_law_ring" ["_law_many"] 1 spRing := by
  obtain ⟨f, fd, F, hm⟩ := T.ex
  refine ⟨f, fd, ?_, hm, F.kp, F.binds fun _ _ _ _ _ _ us hl => match us, hl with | [_], _ => rfl⟩
  refine F.ok sc_law_ring (fun vs H Q E h => ?_) (fun cdv A outer s H vs Q E hr h => ?_)
  · obtain ⟨m, rfl, _⟩ := h
    rfl
  · obtain ⟨m, rfl, hm, hm2, k⟩ := h
    refine ⟨_, (pss_one (ps_ret (pe_callTy (k_tuple K rfl) (by rfl) B.tuple_ (by decide +kernel) (pa_cons (pe_lc (own := [("_law_room", 1)]) (g := gName 1) rfl sc_law_ring.nd (pi_range1 (by rfl) B.range_ (pa_cons (pv 0) pa_nil)) (blkOk_by (N := N_law_ring) (sc := defScope s_law_ring) (by decide +kernel)) (fun _ _ _ _ _ => (pg_name (i := 1) sc_law_ring.nd rfl (Or.inl rfl))) (fun _ _ _ _ _ => pts_nil) (fun _ _ _ _ _ => (pe_tup (pa_cons (pe_tup (pa_cons (pe_op op_mod (pe_op op_add (pv 1) pe_int) (pv 0)) (pa_cons pe_int pa_nil))) (pa_cons (pe_tup (pa_cons (pe_op op_mod (pe_op op_sub (pv 1) pe_int) (pv 0)) (pa_cons pe_int pa_nil))) pa_nil))))) pa_nil)))), ?_⟩
    refine ⟨_, rfl, (m : Int), rfl, by omega, by omega, fun D hD => lcP walk_range (fun j H z => RowV H z [ringF m j 0, ringF m j 1]) hD (by omega) (fun _ _ => trivial) (fun j z H' H'' hA r k => r.tm (r_tm hA k)) (fun i Hi x Hx y => y_fn y) ?_ ?_⟩
    · rintro i v Hi Hx Qc hi s1 _ ⟨rfl, rfl⟩ q2
      have hi : i < m := by omega
      show gName 1 (L2.V.int (0 + (i : Int))) _ _ _
      rw [show (0 : Int) + (i : Int) = (i : Int) from Int.zero_add _]
      refine ⟨rfl, _, rfl, _, _, rfl, rfl, _, rfl, _, _, rfl, rfl, ?_, sz1000 (by show 2 ≤ 100000; decide), fun p1 hp1 => ⟨_, rfl, _, _, rfl, rfl, _, rfl, _, _, rfl, rfl, ?_, sz1000 (by show 2 ≤ 100000; decide), fun p2 hp2 => ⟨sz1000 (by show 2 ≤ 100000; decide), fun p3 hp3 => ?_⟩⟩⟩
      · show (0 : Int) < (m : Int)
        omega
      · show (0 : Int) < (m : Int)
        omega
      have n12 : p1 ≠ p2 := ne_of_none upd_same hp2
      have n23 : p2 ≠ p3 := ne_of_none upd_same hp3
      have n13 : p1 ≠ p3 := ne_of_none (same_new hp2 _ _ upd_same) hp3
      refine q2 _ _ (same_upd (same_upd (same_new hp1) hp2) hp3) ⟨p3, _, rfl, upd_same, .cons ⟨p1, rfl, ?_⟩ (.cons ⟨p2, rfl, ?_⟩ .nil)⟩
      · rw [upd_ne n13, upd_ne n12, upd_same]
        show some (HO.tup [.int (((i : Int) + 1) % (m : Int)), .int 1]) = _
        rw [ring_on hi]
        unfold ringF
        rw [if_pos rfl]; rfl
      · rw [upd_ne n23, upd_same]
        show some (HO.tup [.int (((i : Int) - 1) % (m : Int)), .int 0]) = _
        rw [ring_back hi]
        unfold ringF
        rw [if_neg (by decide)]; rfl
    · intro H' acc s1 hA hlen hval
      refine ⟨D, acc, rfl, .inl ⟨SqL.of hA, fun t ht => ?_⟩⟩
      refine k _ _ (ringW m) (same_upd s1 ht) ⟨webV_of upd_same (paired_of (by rw [hlen]; unfold ringW; rw [mkW_len]; omega) fun i y z hy hz => ?_), ring_valid m, mkW_len, fun r => mkW_doors (fun _ _ => by omega) r⟩
      have hi : i < m := by have := len_lt hz; unfold ringW at this; rw [mkW_len] at this; exact this
      have e : z = [ringF m i 0, ringF m i 1] := Option.some.inj (hz.symm.trans (mkW_row hi))
      rw [e]
      exact (hval i y hy).tm (Tm.new ht)
abbrev N_law_line : List Str := ["_law_many", "_law_made", "_law_room", "_law_back", "_law_on"]
theorem sc_law_line : FnScope N_law_line ["_law_many"] (defScope s_law_line) := ⟨rfl, rfl, rfl, by decide +kernel, rfl, by decide +kernel, by decide +kernel⟩
def spLine : Sp := fun vs H Q _ => ∃ m : Nat, vs = [iv m] ∧ 0 < m ∧ m ≤ 24 ∧ ∀ v H' W, Same H H' → Made H' v W m → Q v H'
theorem has_line (B : Bt mg) (T : Top K mg "_law_line" s_law_line) : Has P w K mg base "_law_line" ["_law_many"] 1 spLine := by
  obtain ⟨f, fd, F, hm⟩ := T.ex
  refine ⟨f, fd, ?_, hm, F.kp, F.binds fun _ _ _ _ _ _ us hl => match us, hl with | [_], _ => rfl⟩
  refine F.ok sc_law_line (fun vs H Q E h => ?_) (fun cdv A outer s H vs Q E hr h => ?_)
  · obtain ⟨m, rfl, _⟩ := h
    rfl
  · obtain ⟨m, rfl, hm, hm2, k⟩ := h
    refine ⟨_, (pss_cons (ps_set (i := 1) sc_law_line.nd rfl (Or.inl rfl) (pe_lst pa_nil))
      (pss_cons (ps_for PassesOwn.never rfl (pi_range1 (by rfl) B.range_ (pa_cons (pv 0) pa_nil)) (pg_name (i := 2) sc_law_line.nd rfl (Or.inl rfl))
      (pss_cons (ps_set (i := 3) sc_law_line.nd rfl (Or.inl rfl) (pe_ifExp (pt_cmpR op_gt (pv 2) pe_int (nomark _)) (pe_tup (pa_cons (pe_op op_sub (pv 2) pe_int) (pa_cons pe_int pa_nil))) (pe_tup (pa_cons pe_int (pa_cons pe_int pa_nil)))))
      (pss_cons (ps_set (i := 4) sc_law_line.nd rfl (Or.inl rfl) (pe_ifExp (pt_cmpR op_lt (pv 2) (pe_op op_sub (pv 0) pe_int) (nomark _)) (pe_tup (pa_cons (pe_op op_add (pv 2) pe_int) (pa_cons pe_int pa_nil))) (pe_tup (pa_cons (pv 2) (pa_cons pe_int pa_nil)))))
      (pss_one (ps_expr (k_bm K rfl PySem.F.plainAttrs_list PySem.F.slot_list_append PySem.F.type_list_append mt_append (pv 1) (pa_cons (pe_tup (pa_cons (pv 3) (pa_cons (pv 4) pa_nil))) pa_nil)))))))
      (pss_one (ps_ret (pe_callTy (k_tuple K rfl) (by rfl) B.tuple_ (by decide +kernel) (pa_cons (pv 1) pa_nil)))))), ?_⟩
    refine ⟨Nat.zero_le _, fun ml hml => ⟨_, rfl, (m : Int), rfl, by omega, by omega, for_range (lo := 0) (n := _) (fun i σ H' => ∃ (ys : List L2.V) (a c d : Option L2.V), σ = [some (iv m), some (.ref ml), a, c, d] ∧ Same H H' ∧ H' ml = some (.lst ys) ∧ Paired (RowV H') ys ((List.range i).map fun r => [lineF m r 0, lineF m r 1]))
      ⟨[], none, none, none, rfl, same_new hml, upd_same, .nil⟩ ?_ ?_⟩⟩
    · rintro i σ H' hi ⟨ys, a, c, d, rfl, s1, h1, h2⟩
      have hi : i < m := by omega
      rw [show (0 : Int) + (i : Int) = (i : Int) from Int.zero_add _]
      have hyl : ys.length = i := by rw [paired_len h2]; simp
      have fin : ∀ (H2 : Hp) (p1 p2 : Addr), Same H' H2 → H2 p1 = some (.tup [iv (lineF m i 0).1, iv (lineF m i 0).2]) → H2 p2 = some (.tup [iv (lineF m i 1).1, iv (lineF m i 1).2]) → ∀ p3, H2 p3 = none →
          ∃ (ys' : List L2.V) (a c d : Option L2.V), [some (iv m), some (.ref ml), some (iv i), some (.ref p1), some (.ref p2)] = [some (iv m), some (.ref ml), a, c, d] ∧ Same H (upd (upd H2 p3 (.tup [.ref p1, .ref p2])) ml (.lst (ys ++ [.ref p3]))) ∧ (upd (upd H2 p3 (.tup [.ref p1, .ref p2])) ml (.lst (ys ++ [.ref p3]))) ml = some (.lst ys') ∧
            Paired (RowV (upd (upd H2 p3 (.tup [.ref p1, .ref p2])) ml (.lst (ys ++ [.ref p3])))) ys' ((List.range (i + 1)).map fun r => [lineF m r 0, lineF m r 1]) := by
        intro H2 p1 p2 s2 e1 e2 p3 hp3
        have hm2 := s2 _ _ h1
        have n3 : ml ≠ p3 := ne_of_none hm2 hp3
        have tm : Tm H2 (upd (upd H2 p3 (.tup [.ref p1, .ref p2])) ml (.lst (ys ++ [.ref p3]))) := (Tm.new hp3).trans (Tm.lst (by rw [upd_ne n3]; exact hm2))
        refine ⟨_, _, _, _, rfl, same_mut (same_upd (s1.trans s2) hp3) hml, upd_same, ?_⟩
        rw [List.range_succ, List.map_append]
        refine paired_snoc ⟨p3, _, rfl, by rw [upd_ne n3.symm, upd_same], .cons ⟨p1, rfl, tm _ _ e1⟩ (.cons ⟨p2, rfl, tm _ _ e2⟩ .nil)⟩ (Paired.mapP h2 fun _ _ x => x.tm ((Tm.of s2).trans tm))
      have e0 : lineF m i 0 = if 0 < i then (i - 1, 1) else (0, 0) := by unfold lineF; rw [if_pos rfl]
      have e1 : lineF m i 1 = if i + 1 < m then (i + 1, 0) else (i, 1) := by unfold lineF; rw [if_neg (by decide)]
      rw [e0, e1] at fin
      by_cases c1 : 0 < i <;> by_cases c2 : i + 1 < m
      · rw [if_pos c1, if_pos c2] at fin
        refine ⟨_, rfl, _, _, rfl, rfl, _, rfl, ?_⟩
        rw [decide_eq_true (by omega : (0 : Int) < (i : Int))]
        refine iteT ⟨_, rfl, _, _, rfl, rfl, sz1000 (by show 2 ≤ 100000; decide), fun p1 hp1 => ⟨_, rfl, _, rfl, _, _, rfl, rfl, _, _, rfl, rfl, _, rfl, ?_⟩⟩
        rw [decide_eq_true (by omega : (i : Int) < (m : Int) - 1)]
        refine iteT ⟨_, rfl, _, _, rfl, rfl, sz1000 (by show 2 ≤ 100000; decide), fun p2 hp2 => ?_⟩
        have n12 : p1 ≠ p2 := ne_of_none upd_same hp2
        have s2 : Same H' (upd (upd H' p1 (.tup [.int ((i : Int) - 1), .int 1])) p2 (.tup [.int ((i : Int) + 1), .int 0])) := same_upd (same_new hp1) hp2
        refine ⟨_, rfl, .inl ⟨rfl, _, SqL.of (s2 _ _ h1)⟩, _, rfl, _, rfl, sz1000 (by show 2 ≤ 100000; decide), fun p3 hp3 => ⟨ml, ys, .ref p3, rfl, rfl, by rw [upd_ne (ne_of_none (s2 _ _ h1) hp3)]; exact s2 _ _ h1, sl1000 (by omega), fin _ p1 p2 s2 ?_ ?_ p3 hp3⟩⟩
        · rw [upd_ne n12, upd_same, show ((i : Int) - 1) = ((i - 1 : Nat) : Int) by omega]; rfl
        · rw [upd_same]; rfl
      · rw [if_pos c1, if_neg c2] at fin
        refine ⟨_, rfl, _, _, rfl, rfl, _, rfl, ?_⟩
        rw [decide_eq_true (by omega : (0 : Int) < (i : Int))]
        refine iteT ⟨_, rfl, _, _, rfl, rfl, sz1000 (by show 2 ≤ 100000; decide), fun p1 hp1 => ⟨_, rfl, _, rfl, _, _, rfl, rfl, _, _, rfl, rfl, _, rfl, ?_⟩⟩
        rw [decide_eq_false (by omega : ¬ (i : Int) < (m : Int) - 1)]
        refine iteF ⟨_, rfl, sz1000 (by show 2 ≤ 100000; decide), fun p2 hp2 => ?_⟩
        have n12 : p1 ≠ p2 := ne_of_none upd_same hp2
        have s2 : Same H' (upd (upd H' p1 (.tup [.int ((i : Int) - 1), .int 1])) p2 (.tup [iv i, .int 1])) := same_upd (same_new hp1) hp2
        refine ⟨_, rfl, .inl ⟨rfl, _, SqL.of (s2 _ _ h1)⟩, _, rfl, _, rfl, sz1000 (by show 2 ≤ 100000; decide), fun p3 hp3 => ⟨ml, ys, .ref p3, rfl, rfl, by rw [upd_ne (ne_of_none (s2 _ _ h1) hp3)]; exact s2 _ _ h1, sl1000 (by omega), fin _ p1 p2 s2 ?_ ?_ p3 hp3⟩⟩
        · rw [upd_ne n12, upd_same, show ((i : Int) - 1) = ((i - 1 : Nat) : Int) by omega]; rfl
        · rw [upd_same]; rfl
      · rw [if_neg c1, if_pos c2] at fin
        refine ⟨_, rfl, _, _, rfl, rfl, _, rfl, ?_⟩
        rw [decide_eq_false (by omega : ¬ (0 : Int) < (i : Int))]
        refine iteF ⟨sz1000 (by show 2 ≤ 100000; decide), fun p1 hp1 => ⟨_, rfl, _, rfl, _, _, rfl, rfl, _, _, rfl, rfl, _, rfl, ?_⟩⟩
        rw [decide_eq_true (by omega : (i : Int) < (m : Int) - 1)]
        refine iteT ⟨_, rfl, _, _, rfl, rfl, sz1000 (by show 2 ≤ 100000; decide), fun p2 hp2 => ?_⟩
        have n12 : p1 ≠ p2 := ne_of_none upd_same hp2
        have s2 : Same H' (upd (upd H' p1 (.tup [.int 0, .int 0])) p2 (.tup [.int ((i : Int) + 1), .int 0])) := same_upd (same_new hp1) hp2
        refine ⟨_, rfl, .inl ⟨rfl, _, SqL.of (s2 _ _ h1)⟩, _, rfl, _, rfl, sz1000 (by show 2 ≤ 100000; decide), fun p3 hp3 => ⟨ml, ys, .ref p3, rfl, rfl, by rw [upd_ne (ne_of_none (s2 _ _ h1) hp3)]; exact s2 _ _ h1, sl1000 (by omega), fin _ p1 p2 s2 ?_ ?_ p3 hp3⟩⟩
        · rw [upd_ne n12, upd_same]; rfl
        · rw [upd_same]; rfl
      · rw [if_neg c1, if_neg c2] at fin
        refine ⟨_, rfl, _, _, rfl, rfl, _, rfl, ?_⟩
        rw [decide_eq_false (by omega : ¬ (0 : Int) < (i : Int))]
        refine iteF ⟨sz1000 (by show 2 ≤ 100000; decide), fun p1 hp1 => ⟨_, rfl, _, rfl, _, _, rfl, rfl, _, _, rfl, rfl, _, rfl, ?_⟩⟩
        rw [decide_eq_false (by omega : ¬ (i : Int) < (m : Int) - 1)]
        refine iteF ⟨_, rfl, sz1000 (by show 2 ≤ 100000; decide), fun p2 hp2 => ?_⟩
        have n12 : p1 ≠ p2 := ne_of_none upd_same hp2
        have s2 : Same H' (upd (upd H' p1 (.tup [.int 0, .int 0])) p2 (.tup [iv i, .int 1])) := same_upd (same_new hp1) hp2
        refine ⟨_, rfl, .inl ⟨rfl, _, SqL.of (s2 _ _ h1)⟩, _, rfl, _, rfl, sz1000 (by show 2 ≤ 100000; decide), fun p3 hp3 => ⟨ml, ys, .ref p3, rfl, rfl, by rw [upd_ne (ne_of_none (s2 _ _ h1) hp3)]; exact s2 _ _ h1, sl1000 (by omega), fin _ p1 p2 s2 ?_ ?_ p3 hp3⟩⟩
        · rw [upd_ne n12, upd_same]; rfl
        · rw [upd_same]; rfl
    · rintro σ H' ⟨ys, a, c, d, rfl, s1, h1, h2⟩
      rw [Int.toNat_natCast] at h2
      refine ⟨_, rfl, ml, ys, rfl, .inl ⟨SqL.of h1, fun t ht => ?_⟩⟩
      exact k _ _ (lineW m) (same_upd s1 ht) ⟨webV_of upd_same (Paired.mapP h2 fun _ _ x => x.tm (Tm.new ht)), line_valid m, mkW_len, fun r => mkW_doors (fun _ _ => by omega) r⟩
abbrev N_law_way : List Str := ["_law_box_here", "_law_web_here", "_law_room", "_law_most", "_law_way_here", "_law_turn_here"]
theorem sc_law_way : FnScope N_law_way ["_law_box_here", "_law_web_here", "_law_room", "_law_most"] (defScope s_law_way) := ⟨rfl, rfl, rfl, by decide +kernel, rfl, by decide +kernel, by decide +kernel⟩
def spWay : Sp := fun vs H Q _ => ∃ (b p : Addr) (W : Web) (rm : Nat → Addr) (en : Nat → Nat → Addr) (r most f : Nat), vs = [.ref b, .ref p, iv r, iv most] ∧ BoxOk H b f ∧ WebH H p W rm en ∧ Closed W ∧ Small W ∧ r < W.length ∧ most ≤ 100 ∧ f + 200 ≤ 1000000000 ∧
  ∀ q H' (way : List Nat), BK b H H' → BoxOk H' b (f + 200) → H' q = some (.tup (way.map iv)) → way.length ≤ most → Q (.ref q) H'
theorem has_way (B : Bt mg) (T : Top K mg "_law_way" s_law_way) (H_law_take_ : Has P w K mg base "_law_take" ["_law_box_here", "_law_many"] 1 spTake) : Has P w K mg base "_law_way" ["_law_box_here", "_law_web_here", "_law_room", "_law_most"] 2 spWay := by
  obtain ⟨f_law_take_, fd_law_take_, G_law_take_, m_law_take_, kp_law_take_, b_law_take_⟩ := H_law_take_.ex
  obtain ⟨f, fd, F, hm⟩ := T.ex
  refine ⟨f, fd, ?_, hm, F.kp, F.binds fun _ _ _ _ _ _ us hl => match us, hl with | [_, _, _, _], _ => rfl⟩
  refine F.ok sc_law_way (fun vs H Q E h => ?_) (fun cdv A outer s H vs Q E hr h => ?_)
  · obtain ⟨b, p, W, rm, en, r, most, f, rfl, _⟩ := h
    rfl
  · obtain ⟨b, p, W, rm, en, r, most, f, rfl, hb, hW, cW, smW, hr1, hmost, hf, k⟩ := h
    refine ⟨_, (pss_cons (ps_set (i := 4) sc_law_way.nd rfl (Or.inl rfl) (pe_lst pa_nil))
      (pss_cons (ps_for PassesOwn.never rfl (pi_range1 (by rfl) B.range_ (pa_cons (pe_call G_law_take_ (hr.mono (by decide)) (by rfl) m_law_take_ kp_law_take_ b_law_take_ .nil pass0 (pa_cons (pv 0) (pa_cons (pe_op op_add (pv 3) pe_int) pa_nil))) pa_nil)) (pg_name (i := 5) sc_law_way.nd rfl (Or.inl rfl))
      (pss_one (ps_if (pt_cmpR op_gt (pe_callB (k_len K rfl) (by rfl) B.len_ PySem.boot_len (pa_cons (pe_ix (k_ixt K rfl) (pv 1) (pv 2) (fun _ _ => rfl)) pa_nil)) pe_int (nomark _)) (pss_cons (ps_expr (k_bm K rfl PySem.F.plainAttrs_list PySem.F.slot_list_append PySem.F.type_list_append mt_append (pv 4) (pa_cons (pe_call G_law_take_ (hr.mono (by decide)) (by rfl) m_law_take_ kp_law_take_ b_law_take_ .nil pass0 (pa_cons (pv 0) (pa_cons (pe_callB (k_len K rfl) (by rfl) B.len_ PySem.boot_len (pa_cons (pe_ix (k_ixt K rfl) (pv 1) (pv 2) (fun _ _ => rfl)) pa_nil)) pa_nil))) pa_nil)))
      (pss_one (ps_set (i := 2) sc_law_way.nd rfl (Or.inl rfl) (pe_ix (k_ixt K rfl) (pe_ix (k_ixt K rfl) (pe_ix (k_ixt K rfl) (pv 1) (pv 2) (fun _ _ => rfl)) (pe_ix (k_ixl K rfl) (pv 4) (pe_un un_neg pe_int) (fun _ _ => rfl)) (fun _ _ => rfl)) pe_int (fun _ _ => rfl))))) pss_nil)))
      (pss_one (ps_ret (pe_callTy (k_tuple K rfl) (by rfl) B.tuple_ (by decide +kernel) (pa_cons (pv 4) pa_nil)))))), ?_⟩
    refine ⟨Nat.zero_le _, fun wl hwl => ?_⟩
    have nwb : wl ≠ b := (BK.refl hb.some).ne hwl
    have k0 : BK b H (upd H wl (.lst [])) := .of (same_new hwl) hb.some
    refine ⟨_, rfl, _, rfl, _, _, rfl, rfl, b, most + 1, f, rfl, hb.same (same_new hwl), by omega, by omega, by omega, fun n H1 hn k1 b1 => ?_⟩
    have k01 := k0.trans k1
    refine ⟨(n : Int), rfl, by omega, by omega, for_range (lo := 0) (n := _) (fun i σ H' => ∃ (L : List Nat) (rc : Nat) (tv : Option L2.V), σ = [some (.ref b), some (.ref p), some (iv rc), some (iv most), some (.ref wl), tv] ∧ rc < W.length ∧ BK b H H' ∧ BoxOk H' b (f + 1 + i) ∧ H' wl = some (.lst (L.map iv)) ∧ L.length ≤ i)
      ⟨[], r, none, rfl, hr1, k01, b1, k1.keep _ _ upd_same nwb, Nat.le_refl _⟩ ?_ ?_⟩
    · rintro i σ H' hi ⟨L, rc, tv, rfl, hrc, k2, b2, h1, hL⟩
      have hi : i < n := by omega
      have hW2 := hW.tm k2.tm
      have hdeg := smW.doors rc
      refine ⟨_, rfl, _, rfl, p, _, _, _, rfl, rfl, SqT.of hW2.web, roomsV_at hrc, rm rc, _, rfl, .inr (SqT.of (hW2.room rc hrc)), _, _, rfl, rfl, _, rfl, ite2 (fun e => ?_) (fun e => ?_)⟩
      · have e := of_decide_eq_true e
        rw [endsV_len] at e
        have hd0 : 0 < deg W rc := by omega
        refine ⟨_, rfl, .inl ⟨rfl, _, SqL.of h1⟩, _, rfl, _, rfl, _, rfl, p, _, _, _, rfl, rfl, SqT.of hW2.web, roomsV_at hrc, rm rc, _, rfl, .inr (SqT.of (hW2.room rc hrc)), b, deg W rc, f + 1 + i, by rw [endsV_len]; rfl, b2, by omega, hd0, by omega, fun d H3 hd k3 b3 => ?_⟩
        have h3 := k3.keep _ _ h1 nwb
        have k23 := k2.trans k3
        have k4 := k23.mut (o := .lst (L.map iv ++ [iv d])) hwl
        have hW4 := hW.tm k4.tm
        have hat : atI (L.map iv ++ [iv d]) (-1) = some (iv d) := atI_last _ _
        refine ⟨wl, _, _, rfl, rfl, h3, sl1000 (by rw [List.length_map]; omega), ?_⟩
        refine ⟨_, rfl, _, rfl, p, _, _, _, rfl, rfl, SqT.of hW4.web, roomsV_at hrc, _, rfl, _, rfl, wl, _, _, _, rfl, rfl, SqL.of upd_same, hat, rm rc, _, _, _, rfl, rfl, SqT.of (hW4.room rc hrc), endsV_at hd, en rc d, _, _, _, rfl, rfl, SqT.of (hW4.ends rc d hd), atI_nat (j := 0) rfl, ?_⟩
        exact ⟨L ++ [d], _, _, rfl, cW.lt rc d hd, k4, b3.keep (upd_ne nwb.symm), by rw [upd_same, List.map_append]; rfl, by rw [List.length_append]; show L.length + 1 ≤ i + 1; omega⟩
      · exact ⟨L, rc, _, rfl, hrc, k2, b2.le (by omega), h1, by omega⟩
    · rintro σ H' ⟨L, rc, tv, rfl, hrc, k2, b2, h1, hL⟩
      rw [Int.toNat_natCast] at b2 hL
      refine ⟨_, rfl, wl, _, rfl, .inl ⟨SqL.of h1, fun q hq => ?_⟩⟩
      exact k q _ L (k2.new hq) ((b2.same (same_new hq)).le (by omega)) upd_same (by omega)
abbrev N_law_any_way : List Str := ["_law_box_here", "_law_web_here", "_law_room", "_law_way_here", "_law_at"]
theorem sc_law_any_way : FnScope N_law_any_way ["_law_box_here", "_law_web_here", "_law_room"] (defScope s_law_any_way) := ⟨rfl, rfl, rfl, by decide +kernel, rfl, by decide +kernel, by decide +kernel⟩
def spAnyWay : Sp := fun vs H Q _ => ∃ (b p : Addr) (W : Web) (rm : Nat → Addr) (en : Nat → Nat → Addr) (r f : Nat), vs = [.ref b, .ref p, iv r] ∧ BoxOk H b f ∧ WebH H p W rm en ∧ Closed W ∧ Small W ∧ r < W.length ∧ f + 300 ≤ 1000000000 ∧
  ∀ q H' (way : List Nat), BK b H H' → BoxOk H' b (f + 300) → H' q = some (.tup (way.map iv)) → way.length ≤ 1000 → Q (.ref q) H'
theorem cut_ex (xs : List Nat) (lo hi : Option Int) : ∃ L : List Nat, cutV (xs.map iv) lo hi = L.map iv ∧ L.length ≤ xs.length := by
  refine ⟨(xs.drop (HT.sIx xs.length 0 lo)).take (HT.sIx xs.length xs.length hi - HT.sIx xs.length 0 lo), ?_, ?_⟩
  · unfold cutV
    rw [List.length_map, List.map_take, List.map_drop]
  · rw [List.length_take, List.length_drop]; omega
theorem has_anyway (B : Bt mg) (T : Top K mg "_law_any_way" s_law_any_way) (H_law_take_ : Has P w K mg base "_law_take" ["_law_box_here", "_law_many"] 1 spTake) (H_law_way_ : Has P w K mg base "_law_way" ["_law_box_here", "_law_web_here", "_law_room", "_law_most"] 2 spWay) :
    Has P w K mg base "_law_any_way" ["_law_box_here", "_law_web_here", "_law_room"] 3 spAnyWay := by
  obtain ⟨f_law_take_, fd_law_take_, G_law_take_, m_law_take_, kp_law_take_, b_law_take_⟩ := H_law_take_.ex
  obtain ⟨f_law_way_, fd_law_way_, G_law_way_, m_law_way_, kp_law_way_, b_law_way_⟩ := H_law_way_.ex
  obtain ⟨f, fd, F, hm⟩ := T.ex
  refine ⟨f, fd, ?_, hm, F.kp, F.binds fun _ _ _ _ _ _ us hl => match us, hl with | [_, _, _], _ => rfl⟩
  refine F.ok sc_law_any_way (fun vs H Q E h => ?_) (fun cdv A outer s H vs Q E hr h => ?_)
  · obtain ⟨b, p, W, rm, en, r, f, rfl, _⟩ := h
    rfl
  · obtain ⟨b, p, W, rm, en, r, f, rfl, hb, hW, cW, smW, hr1, hf, k⟩ := h
    refine ⟨_, (pss_cons (ps_set (i := 3) sc_law_any_way.nd rfl (Or.inl rfl) (pe_call G_law_way_ (hr.mono (by decide)) (by rfl) m_law_way_ kp_law_way_ b_law_way_ .nil pass0 (pa_cons (pv 0) (pa_cons (pv 1) (pa_cons (pv 2) (pa_cons (pe_ix (k_ixl K rfl) (pe_lst (pa_cons pe_int (pa_cons pe_int (pa_cons pe_int pa_nil)))) (pe_call G_law_take_ (hr.mono (by decide)) (by rfl) m_law_take_ kp_law_take_ b_law_take_ .nil pass0 (pa_cons (pv 0) (pa_cons pe_int pa_nil))) (fun _ _ => rfl)) pa_nil))))))
      (pss_cons (ps_if (pt_cmpR op_gt (pe_call G_law_take_ (hr.mono (by decide)) (by rfl) m_law_take_ kp_law_take_ b_law_take_ .nil pass0 (pa_cons (pv 0) (pa_cons pe_int pa_nil))) pe_int (nomark _)) (pss_one (ps_ret (pv 3))) pss_nil)
      (pss_cons (ps_set (i := 4) sc_law_any_way.nd rfl (Or.inl rfl) (pe_call G_law_take_ (hr.mono (by decide)) (by rfl) m_law_take_ kp_law_take_ b_law_take_ .nil pass0 (pa_cons (pv 0) (pa_cons (pe_op op_add (pe_callB (call_min2 rfl) (by rfl) B.min_ (by decide +kernel) (pa_cons (pe_callB (k_len K rfl) (by rfl) B.len_ PySem.boot_len (pa_cons (pv 3) pa_nil)) (pa_cons pe_int pa_nil))) pe_int) pa_nil))))
      (pss_one (ps_ret (pe_op (k_catA K rfl) (pe_op (k_catA K rfl) (pe_slice (k_slt K rfl) (pv 3) po_none (po_some (pv 4))) (pe_tup (pa_cons (pe_call G_law_take_ (hr.mono (by decide)) (by rfl) m_law_take_ kp_law_take_ b_law_take_ .nil pass0 (pa_cons (pv 0) (pa_cons pe_int pa_nil))) pa_nil))) (pe_slice (k_slt K rfl) (pv 3) (po_some (pv 4)) (po_some pe_int)))))))), ?_⟩
    refine ⟨_, rfl, _, rfl, _, rfl, sz1000 (by show 3 ≤ 100000; decide), fun c3 hc3 => ⟨_, rfl, b, 3, f, rfl, hb.same (same_new hc3), by omega, by decide, by decide, fun u H1 hu k1 b1 => ?_⟩⟩
    have n3b : c3 ≠ b := (BK.refl hb.some).ne hc3
    have k01 := (BK.of (same_new (o := .lst [.int 4, .int 12, .int 60]) hc3) hb.some).trans k1
    obtain ⟨most, hmost, hat⟩ : ∃ most : Nat, most ≤ 60 ∧ atI [L2.V.int 4, .int 12, .int 60] (u : Int) = some (iv most) := by
      have : u = 0 ∨ u = 1 ∨ u = 2 := by omega
      rcases this with rfl | rfl | rfl
      · exact ⟨4, by decide, rfl⟩
      · exact ⟨12, by decide, rfl⟩
      · exact ⟨60, by decide, rfl⟩
    refine ⟨c3, _, _, _, rfl, rfl, SqL.of (k1.keep _ _ upd_same n3b), hat, b, p, W, rm, en, r, most, f + 1, rfl, b1, hW.tm k01.tm, cW, smW, hr1, by omega, by omega, fun q H2 way k2 b2 hq hwl => ?_⟩
    have k02 := k01.trans k2
    refine ⟨_, rfl, b, 3, f + 1 + 200, rfl, b2, by omega, by decide, by decide, fun v H3 hv k3 b3 => ?_⟩
    have k03 := k02.trans k3
    have hq3 := k3.tm _ _ hq
    refine ⟨_, _, rfl, rfl, _, rfl, ite2 (fun e => ?_) (fun e => ?_)⟩
    · exact ⟨_, rfl, k q H3 way k03 (b3.le (by omega)) hq3 (by omega)⟩
    · -- at = take(box, min(len(way), 59) + 1)
      obtain ⟨mn, hmn, emn⟩ : ∃ mn : Nat, mn ≤ 60 ∧ (if (59 : Int) < ((way.map iv).length : Int) then (59 : Int) else ((way.map iv).length : Int)) = (mn : Int) := by
        rw [List.length_map]
        split
        · exact ⟨59, by decide, rfl⟩
        · exact ⟨way.length, by omega, rfl⟩
      refine ⟨_, rfl, _, rfl, q, _, rfl, .inr (SqT.of hq3), _, _, rfl, _, _, rfl, rfl, b, mn + 1, f + 1 + 200 + 1, ?_, b3, by omega, by omega, by omega, fun at' H4 hat' k4 b4 => ?_⟩
      · show [L2.V.ref b, .int ((if (59 : Int) < ((way.map iv).length : Int) then (59 : Int) else ((way.map iv).length : Int)) + 1)] = _
        rw [emn]; rfl
      have k04 := k03.trans k4
      have hq4 := k4.tm _ _ hq3
      refine ⟨_, rfl, _, rfl, (at' : Int), rfl, slA_q hq4 fun q1 H5 s5 hq5 => ?_⟩
      refine ⟨_, rfl, b, 7, f + 1 + 200 + 1 + 1, rfl, b4.same s5, by omega, by decide, by decide, fun x H6 hx k6 b6 => ⟨sz1000 (by show 1 ≤ 100000; decide), fun t1 ht1 => ?_⟩⟩
      have k05 := k04.same s5
      have k07 := (k05.trans k6).new (o := .tup [iv x]) ht1
      have tm67 : Tm H5 (upd H6 t1 (.tup [iv x])) := k6.tm.trans (Tm.new ht1)
      obtain ⟨L1, e1, hl1⟩ := cut_ex way none (some (at' : Int))
      rw [e1] at hq5
      refine catA_q (tm67 _ _ hq5) upd_same (by rw [List.length_map]; show _ + 1 ≤ 100000; omega) fun q2 H8 s8 hq8 => ?_
      have hq48 : H8 q = some (.tup (way.map iv)) := s8 _ _ (tm67 _ _ ((Tm.of s5) _ _ hq4))
      refine ⟨_, rfl, _, rfl, (at' : Int), rfl, 59, rfl, slA_q hq48 fun q3 H9 s9 hq9 => ?_⟩
      obtain ⟨L2', e2, hl2⟩ := cut_ex way (some (at' : Int)) (some 59)
      rw [e2] at hq9
      refine catA_q (s9 _ _ hq8) hq9 (by rw [List.length_append, List.length_map, List.length_map]; show _ + 1 + _ ≤ 100000; omega) fun q4 H10 s10 hq10 => ?_
      refine k q4 H10 (L1 ++ [x] ++ L2') (((k07.same s8).same s9).same s10) ((((b6.same (same_new ht1)).same s8).same s9).same s10 |>.le (by omega)) (by rw [hq10, List.map_append, List.map_append]; rfl) ?_
      rw [List.length_append, List.length_append]
      show _ + 1 + _ ≤ 1000
      omega
end
end K18
namespace K18
open PySem PySem.Spec PyProof.Rows L2
section
variable {P : Program} {w : World} {K : PySem.W.Frag} {mg : Str → Option Value} {base : Heap}
/-! _law_renamed -/
/-- W' is W with its rooms named anew -/
structure RenOk (W W' : Web) (π : List Nat) : Prop where
  len : W'.length = W.length
  deg : ∀ r, r < W.length → K18.deg W' (nn π r) = K18.deg W r
  nxt : ∀ r d, d < K18.deg W r → K18.nxt W' (nn π r) d = (nn π (K18.nxt W r d).1, (K18.nxt W r d).2)
def renRow (W : Web) (π : List Nat) (r : Nat) : List Pt := (List.range (deg W r)).map fun d => (nn π (nxt W r d).1, (nxt W r d).2)
theorem pos_of {π : List Nat} {m : Nat} {own : Bool} (h : TurnOk π m own) : (∀ x, x < m → posOf π x < m ∧ nn π (posOf π x) = x) ∧ ∀ r, r < m → posOf π (nn π r) = r := by
  have h1 : ∀ x, x < m → posOf π x < m ∧ nn π (posOf π x) = x := fun x hx => by
    obtain ⟨i, hi, e⟩ := h.surj x hx
    have hm : x ∈ π := by rw [← e]; exact List.mem_of_getElem? (nn_get (by rw [h.len]; exact hi))
    have g := pos_get hm
    exact ⟨by have := len_lt g; rw [h.len] at this; exact this, nn_of g⟩
  refine ⟨h1, fun r hr => ?_⟩
  obtain ⟨a, b⟩ := h1 (nn π r) (h.lt r hr)
  exact h.inj _ _ a hr b
def renW (W : Web) (π : List Nat) : Web := (List.range W.length).map fun x => renRow W π (posOf π x)
theorem ren_ok {W : Web} {π : List Nat} {own : Bool} (h : TurnOk π W.length own) : RenOk W (renW W π) π := by
  obtain ⟨h1, h2⟩ := pos_of h
  have hrow : ∀ r, r < W.length → (renW W π)[nn π r]? = some (renRow W π r) := fun r hr => by
    have := rg_get (f := fun x => renRow W π (posOf π x)) (h.lt r hr)
    rw [h2 r hr] at this
    exact this
  refine ⟨by unfold renW; simp, fun r hr => ?_, fun r d hd => ?_⟩
  · rw [deg_of (hrow r hr)]; unfold renRow; simp
  · exact nxt_of (hrow r (lt_of_deg hd)) (rg_get hd)
abbrev N_law_renamed : List Str := ["_law_box_here", "_law_web_here", "_law_numbers", "_law_made", "_law_room", "_law_other", "_law_door"]
theorem sc_law_renamed : FnScope N_law_renamed ["_law_box_here", "_law_web_here"] (defScope s_law_renamed) := ⟨rfl, rfl, rfl, by decide +kernel, rfl, by decide +kernel, by decide +kernel⟩
def spRenamed : Sp := fun vs H Q _ => ∃ (b p : Addr) (W : Web) (rm : Nat → Addr) (en : Nat → Nat → Addr) (f : Nat), vs = [.ref b, .ref p] ∧ BoxOk H b f ∧ WebH H p W rm en ∧ Closed W ∧ Small W ∧ f + 1000 ≤ 1000000000 ∧
  ∀ t wv q H' W' π, BK b H H' → BoxOk H' b (f + 1000) → H' t = some (.tup [wv, .ref q]) → H' q = some (.tup (π.map iv)) → WebV H' wv W' → TurnOk π W.length false → RenOk W W' π → Q (.ref t) H'
theorem has_renamed (B : Bt mg) (T : Top K mg "_law_renamed" s_law_renamed) (H_law_turn_ : Has P w K mg base "_law_turn" ["_law_box_here", "_law_many", "_law_own"] 2 spTurn) : Has P w K mg base "_law_renamed" ["_law_box_here", "_law_web_here"] 3 spRenamed := by
  obtain ⟨f_law_turn_, fd_law_turn_, G_law_turn_, m_law_turn_, kp_law_turn_, b_law_turn_⟩ := H_law_turn_.ex
  obtain ⟨f, fd, F, hm⟩ := T.ex
  refine ⟨f, fd, ?_, hm, F.kp, F.binds fun _ _ _ _ _ _ us hl => match us, hl with | [_, _], _ => rfl⟩
  refine F.ok sc_law_renamed (fun vs H Q E h => ?_) (fun cdv A outer s H vs Q E hr h => ?_)
  · obtain ⟨b, p, W, rm, en, f, rfl, _⟩ := h
    rfl
  · obtain ⟨b, p, W, rm, en, f, rfl, hb, hW, cW, smW, hf, k⟩ := h
    refine ⟨_, (pss_cons (ps_set (i := 2) sc_law_renamed.nd rfl (Or.inr rfl) (pe_call G_law_turn_ (hr.mono (by decide)) (by rfl) m_law_turn_ kp_law_turn_ b_law_turn_ .nil pass0 (pa_cons (pv 0) (pa_cons (pe_callB (k_len K rfl) (by rfl) B.len_ PySem.boot_len (pa_cons (pv 1) pa_nil)) (pa_cons pe_bl pa_nil)))))
      (pss_cons (ps_set (i := 3) sc_law_renamed.nd rfl (Or.inl rfl) (pe_op op_rep (pe_lst (pa_cons pe_non pa_nil)) (pe_callB (k_len K rfl) (by rfl) B.len_ PySem.boot_len (pa_cons (pv 1) pa_nil))))
      (pss_cons (ps_for PassesOwn.never rfl (pi_range1 (by rfl) B.range_ (pa_cons (pe_callB (k_len K rfl) (by rfl) B.len_ PySem.boot_len (pa_cons (pv 1) pa_nil)) pa_nil)) (pg_name (i := 4) sc_law_renamed.nd rfl (Or.inl rfl))
      (pss_one (ps_asg (pe_callTy (k_tuple K rfl) (by rfl) B.tuple_ (by decide +kernel) (pa_cons (pe_lc (own := [("_law_other", 5), ("_law_door", 6)]) (g := gTup K 2 (gCons (gName 5) (gCons (gName 6) gNil))) rfl sc_law_renamed.nd (pi_tup (pe_ix (k_ixt K rfl) (pv 1) (pv 4) (fun _ _ => rfl))) (blkOk_by (N := N_law_renamed) (sc := defScope s_law_renamed) (by decide +kernel)) (fun _ _ _ _ _ => (pg_tup rfl (pgs_cons (pg_name (i := 5) sc_law_renamed.nd rfl (Or.inl rfl)) (pgs_cons (pg_name (i := 6) sc_law_renamed.nd rfl (Or.inl rfl)) pgs_nil)))) (fun _ _ _ _ _ => pts_nil) (fun _ _ _ _ _ => (pe_tup (pa_cons (pe_ix (k_ixt K rfl) (pv 2) (pv 5) (fun _ _ => rfl)) (pa_cons (pv 6) pa_nil))))) pa_nil)) (pg_sub (pv 3) (pe_ix (k_ixt K rfl) (pv 2) (pv 4) (fun _ _ => rfl)) set_list))))
      (pss_one (ps_ret (pe_tup (pa_cons (pe_callTy (k_tuple K rfl) (by rfl) B.tuple_ (by decide +kernel) (pa_cons (pv 3) pa_nil)) (pa_cons (pv 2) pa_nil)))))))), ?_⟩
    have hrooms := smW.rooms
    refine ⟨_, rfl, _, rfl, p, _, rfl, .inr (SqT.of hW.web), b, W.length, f, false, by rw [roomsV_len]; rfl, hb, by omega, hrooms, fun q H1 π k1 b1 hq1 hπ => ?_⟩
    have hW1 := hW.tm k1.tm
    have hπl := hπ.len
    refine ⟨sz1000 (by show 1 ≤ 100000; decide), fun z1 hz1 => ?_⟩
    have s1 := same_new (o := .lst [L2.V.non]) hz1
    refine ⟨_, rfl, p, _, rfl, .inr (SqT.of (s1 _ _ hW1.web)), z1, _, _, rfl, rfl, upd_same, by rw [roomsV_len]; omega, by rw [roomsV_len]; omega, ?_, fun ml hml => ?_⟩
    · rw [roomsV_len]
      show 1 * ((W.length : Nat) : Int).toNat ≤ sizeLine
      exact sz1000 (by omega)
    have hrep : (List.replicate ((roomsV W rm).length : Int).toNat [L2.V.non]).flatten = List.replicate W.length L2.V.non := by
      rw [roomsV_len, Int.toNat_natCast]
      exact List.flatten_replicate_singleton
    have hml1 := s1.free hml
    have hml0 := k1.free hml1
    have nmb := k1.ne hml1
    have k3 := (k1.same s1).new (o := .lst (List.replicate ((roomsV W rm).length : Int).toNat [L2.V.non]).flatten) hml
    have s3 := same_upd (o := .lst (List.replicate ((roomsV W rm).length : Int).toNat [L2.V.non]).flatten) s1 hml
    have b3 := b1.same s3
    have hW3 := hW.tm k3.tm
    refine ⟨_, rfl, p, _, rfl, .inr (SqT.of hW3.web), ((roomsV W rm).length : Int), rfl, by rw [roomsV_len]; omega, by rw [roomsV_len]; omega, for_range (lo := 0) (n := _) (fun i σ H' => ∃ (ys : List L2.V) (rv : Option L2.V), σ = [some (.ref b), some (.ref p), some (.ref q), some (.ref ml), rv, none, none] ∧ BK b H H' ∧ BoxOk H' b (f + W.length) ∧ H' q = some (.tup (π.map iv)) ∧ H' ml = some (.lst ys) ∧ ys.length = W.length ∧ ∀ r, r < i → ∃ y, ys[nn π r]? = some y ∧ RowV H' y (renRow W π r))
      ⟨_, none, rfl, k3, b3, s3 _ _ hq1, by rw [upd_same, hrep], by rw [List.length_replicate], fun r hr => by omega⟩ ?_ ?_⟩
    · rintro i σ H' hi ⟨ys, rv, rfl, k4, b4, hq4, hml4, hyl, hys⟩
      have hi : i < W.length := by rw [roomsV_len] at hi; omega
      rw [show (0 : Int) + (i : Int) = (i : Int) from Int.zero_add _]
      have hW4 := hW.tm k4.tm
      have hdi := smW.doors i
      refine ⟨_, rfl, _, rfl, p, _, _, _, rfl, rfl, SqT.of hW4.web, roomsV_at hi, rm i, rfl, ⟨_, SqT.of (hW4.room i hi)⟩, fun D hD => lcP walk_tup (fun j H z => PtV H z (nn π (nxt W i j).1, (nxt W i j).2)) hD (by rw [endsV_len]; omega) (fun H' s => SqT.of (s _ _ (hW4.room i hi)))
        (fun j z H' H'' hA r k => r.tm (r_tm hA k)) (fun i Hi x Hx y => y_at y) ?_ ?_⟩
      · rintro d v Hi Hx Qc hd s5 _ ⟨rfl, hx⟩ q2
        have hd : d < deg W i := by rw [endsV_len] at hd; exact hd
        have ev : v = .ref (en i d) := Option.some.inj (hx.symm.trans (endsV_get hd))
        subst ev
        refine ⟨en i d, _, rfl, SqT.of (s5 _ _ (hW4.ends i d hd)), rfl, _, _, rfl, _, _, rfl, rfl, rfl, ?_⟩
        refine ⟨_, rfl, _, rfl, q, _, _, _, rfl, rfl, SqT.of (s5 _ _ hq4), nn_at (by rw [hπl]; exact cW.lt i d hd), _, rfl, sz1000 (by show 2 ≤ 100000; decide), fun t ht => ?_⟩
        exact q2 _ _ (same_new ht) ⟨t, rfl, upd_same⟩
      intro H5 acc s5 hA hlen hval
      rw [endsV_len] at hlen
      refine ⟨D, acc, rfl, .inl ⟨SqL.of hA, fun t ht => ?_⟩⟩
      have s6 := same_upd (o := .tup acc) s5 ht
      have hml6 := s6 _ _ hml4
      have k6 := k4.same s6
      refine ⟨_, rfl, _, rfl, _, rfl, q, _, _, _, rfl, rfl, SqT.of (s6 _ _ hq4), nn_at (by omega), ml, ys, _, nn π i, rfl, rfl, hml6, Evl.ixN_nat (by rw [hyl]; exact hπ.lt i hi), ?_⟩
      have tm7 : Tm (upd H5 t (.tup acc)) (upd (upd H5 t (.tup acc)) ml (.lst (ys.set (nn π i) (.ref t)))) := Tm.lst hml6
      have hπi := hπ.lt i hi
      refine ⟨ys.set (nn π i) (.ref t), _, rfl, k6.mut hml0, (b4.same s6).keep (upd_ne nmb.symm), tm7 _ _ (s6 _ _ hq4), upd_same, by rw [List.length_set]; exact hyl, fun r hr => ?_⟩
      rw [List.getElem?_set]
      by_cases e : nn π i = nn π r
      · have e2 : i = r := hπ.inj _ _ hi (by omega) e
        subst e2
        rw [if_pos rfl, if_pos (by omega)]
        refine ⟨_, rfl, t, acc, rfl, tm7 _ _ upd_same, paired_of (by rw [hlen]; unfold renRow; simp) fun d y z hy hz => ?_⟩
        have hd : d < deg W i := by have := len_lt hy; omega
        have e3 : z = (nn π (nxt W i d).1, (nxt W i d).2) := Option.some.inj (hz.symm.trans (rg_get hd))
        rw [e3]
        exact (hval d y hy).tm ((Tm.new ht).trans tm7)
      · rw [if_neg e]
        have hne : r ≠ i := fun z => e (by rw [z])
        obtain ⟨y, hy, hrw⟩ := hys r (by omega)
        exact ⟨y, hy, hrw.tm ((Tm.of s6).trans tm7)⟩
    · rintro σ H' ⟨ys, rv, rfl, k4, b4, hq4, hml4, hyl, hys⟩
      refine ⟨_, rfl, ml, ys, rfl, .inl ⟨SqL.of hml4, fun t ht => ⟨_, rfl, sz1000 (by show 2 ≤ 100000; decide), fun t2 ht2 => ?_⟩⟩⟩
      have s5 := same_new (o := .tup ys) ht
      have s6 := same_upd (o := .tup [.ref t, .ref q]) s5 ht2
      rw [roomsV_len, Int.toNat_natCast] at hys
      obtain ⟨h1, h2⟩ := pos_of hπ
      refine k t2 (.ref t) q _ (renW W π) π (k4.same s6) ((b4.same s6).le (by omega)) upd_same (s6 _ _ hq4) ?_ hπ (ren_ok hπ)
      refine webV_of (by rw [upd_ne (ne_of_none upd_same ht2)]; exact upd_same) (paired_of (by rw [hyl]; unfold renW; simp) fun x y z hy hz => ?_)
      have hx : x < W.length := by have := len_lt hy; omega
      have e : z = renRow W π (posOf π x) := Option.some.inj (hz.symm.trans (rg_get hx))
      obtain ⟨a1, a2⟩ := h1 x hx
      obtain ⟨y', hy', hrw⟩ := hys (posOf π x) a1
      rw [a2, hy] at hy'
      cases hy'
      rw [e]
      exact hrw.tm (Tm.of s6)
end
end K18
/-! K18 mathematics, part D: halves of ties joined to a web. -/
namespace K18
open PySem PySem.Spec PyProof.Rows L2
/-- the other half -/
def mate (h : Pt) : Pt := (h.1, if h.2 = 0 then 1 else if h.2 = 1 then 0 else 2)
/-- halves that can be joined: each but once, its mate there -/
structure HalvesOk (Hs : List (List Pt)) : Prop where
  once : ∀ (r d r' d' : Nat) (h : Pt), (Hs.getD r [])[d]? = some h → (Hs.getD r' [])[d']? = some h → r = r' ∧ d = d'
  side : ∀ (r d : Nat) (h : Pt), (Hs.getD r [])[d]? = some h → h.2 ≤ 2
  mated : ∀ (r d : Nat) (h : Pt), (Hs.getD r [])[d]? = some h → ∃ r' d' : Nat, (Hs.getD r' [])[d']? = some (mate h)
def allAt (Hs : List (List Pt)) (m : Nat) : List Pt := (List.range m).flatMap fun r => (List.range (Hs.getD r []).length).map fun d => (r, d)
theorem mem_allAt {Hs : List (List Pt)} {m : Nat} {x : Pt} : x ∈ allAt Hs m ↔ x.1 < m ∧ x.2 < (Hs.getD x.1 []).length := by
  unfold allAt
  rw [List.mem_flatMap]
  constructor
  · rintro ⟨r, hr, hx⟩
    obtain ⟨d, hd, rfl⟩ := List.mem_map.mp hx
    exact ⟨List.mem_range.mp hr, List.mem_range.mp hd⟩
  · rintro ⟨h1, h2⟩
    exact ⟨x.1, List.mem_range.mpr h1, List.mem_map.mpr ⟨x.2, List.mem_range.mpr h2, rfl⟩⟩
/-- where a half lies -/
def placeOf (Hs : List (List Pt)) (h : Pt) : Pt := ((allAt Hs Hs.length).find? fun x => decide ((Hs.getD x.1 [])[x.2]? = some h)).getD (0, 0)
theorem rows_lt {Hs : List (List Pt)} {r d : Nat} {h : Pt} (e : (Hs.getD r [])[d]? = some h) : r < Hs.length ∧ d < (Hs.getD r []).length := by
  have h2 := len_lt e
  refine ⟨?_, h2⟩
  by_cases z : r < Hs.length
  · exact z
  · rw [List.getD_eq_getElem?_getD, List.getElem?_eq_none (by omega)] at h2
    exact (Nat.not_lt_zero _ h2).elim
theorem place_of {Hs : List (List Pt)} (ok : HalvesOk Hs) {r d : Nat} {h : Pt} (e : (Hs.getD r [])[d]? = some h) : placeOf Hs h = (r, d) := by
  unfold placeOf
  cases hf : (allAt Hs Hs.length).find? fun x => decide ((Hs.getD x.1 [])[x.2]? = some h) with
  | none =>
    have := List.find?_eq_none.mp hf (r, d) (mem_allAt.mpr (rows_lt e))
    exact (this (decide_eq_true e)).elim
  | some x =>
    have hs : decide ((Hs.getD x.1 [])[x.2]? = some h) = true := List.find?_some (p := fun x : Pt => decide ((Hs.getD x.1 [])[x.2]? = some h)) hf
    obtain ⟨a, b⟩ := ok.once _ _ _ _ _ (of_decide_eq_true hs) e
    exact Prod.ext a b
def joinF (Hs : List (List Pt)) (r d : Nat) : Pt := placeOf Hs (mate ((Hs.getD r []).getD d (0, 0)))
def joinW (Hs : List (List Pt)) : Web := mkW Hs.length (fun r => (Hs.getD r []).length) (joinF Hs)
theorem mate_mate {h : Pt} (hs : h.2 ≤ 2) : mate (mate h) = h := by
  obtain ⟨t, s⟩ := h
  have : s = 0 ∨ s = 1 ∨ s = 2 := by
    have hs : s ≤ 2 := hs
    omega
  rcases this with rfl | rfl | rfl <;> rfl
theorem join_ok {Hs : List (List Pt)} (ok : HalvesOk Hs) {r d : Nat} {h : Pt} (e : (Hs.getD r [])[d]? = some h)   : ∃ r' d' : Nat, joinF Hs r d = (r', d') ∧ (Hs.getD r' [])[d']? = some (mate h) := by
  obtain ⟨r', d', e'⟩ := ok.mated r d h e
  refine ⟨r', d', ?_, e'⟩
  unfold joinF
  rw [List.getD_eq_getElem?_getD (l := Hs.getD r []), e]
  exact place_of ok e'
theorem join_valid {Hs : List (List Pt)} (ok : HalvesOk Hs) : Valid (joinW Hs) := by
  refine mkW_valid fun r d hr hd => ?_
  have e : (Hs.getD r [])[d]? = some ((Hs.getD r [])[d]) := List.getElem?_eq_getElem hd
  obtain ⟨r', d', h1, h2⟩ := join_ok ok e
  obtain ⟨a, b⟩ := rows_lt h2
  rw [h1]
  refine ⟨a, b, ?_⟩
  obtain ⟨r2, d2, h3, h4⟩ := join_ok ok h2
  show joinF Hs r' d' = (r, d)
  rw [mate_mate (ok.side _ _ _ e)] at h4
  obtain ⟨x, y⟩ := ok.once _ _ _ _ _ h4 e
  rw [h3, x, y]
theorem joinW_len (Hs : List (List Pt)) : (joinW Hs).length = Hs.length := mkW_len
/-! ### halves put one by one -/
/-- the sides of a tie -/
def sidesOf (n : Nat) (x : Pt) : List Pt := if x.2 = n then [(x.1, 2)] else [(x.1, 0), (x.2, 1)]
/-- the halves of a tie -/
def halvesOf (n t : Nat) (x : Pt) : List Pt := if x.2 = n then [(t, 2)] else [(t, 0), (t, 1)]
def halvesTo (n : Nat) (Ps : List Pt) (i : Nat) : List Pt := (List.range i).flatMap fun t => halvesOf n t (Ps.getD t (0, 0))
theorem mem_halvesTo {n : Nat} {Ps : List Pt} {i : Nat} {h : Pt} : h ∈ halvesTo n Ps i ↔ h.1 < i ∧ if (Ps.getD h.1 (0, 0)).2 = n then h.2 = 2 else h.2 = 0 ∨ h.2 = 1 := by
  unfold halvesTo
  rw [List.mem_flatMap]
  constructor
  · rintro ⟨t, ht, hx⟩
    have ht := List.mem_range.mp ht
    unfold halvesOf at hx
    by_cases e : (Ps.getD t (0, 0)).2 = n
    · rw [if_pos e] at hx
      have := List.mem_singleton.mp hx
      subst this
      exact ⟨ht, by rw [if_pos e]⟩
    · rw [if_neg e] at hx
      rcases List.mem_cons.mp hx with rfl | hx
      · exact ⟨ht, by rw [if_neg e]; exact .inl rfl⟩
      · have := List.mem_singleton.mp hx
        subst this
        exact ⟨ht, by rw [if_neg e]; exact .inr rfl⟩
  · rintro ⟨h1, h2⟩
    refine ⟨h.1, List.mem_range.mpr h1, ?_⟩
    unfold halvesOf
    by_cases e : (Ps.getD h.1 (0, 0)).2 = n
    · rw [if_pos e] at h2 ⊢
      exact List.mem_singleton.mpr (Prod.ext rfl h2)
    · rw [if_neg e] at h2 ⊢
      rcases h2 with h2 | h2
      · exact List.mem_cons.mpr (.inl (Prod.ext rfl h2))
      · exact List.mem_cons_of_mem _ (List.mem_singleton.mpr (Prod.ext rfl h2))
theorem halvesTo_succ {n : Nat} {Ps : List Pt} {i : Nat} : halvesTo n Ps (i + 1) = halvesTo n Ps i ++ halvesOf n i (Ps.getD i (0, 0)) := by
  unfold halvesTo
  rw [List.range_succ, List.flatMap_append]
  simp
theorem halvesTo_nodup {n : Nat} {Ps : List Pt} : ∀ i, (halvesTo n Ps i).Nodup
  | 0 => List.nodup_nil
  | i + 1 => by
    rw [halvesTo_succ]
    refine List.nodup_append.mpr ⟨halvesTo_nodup i, ?_, fun a ha b hb e => ?_⟩
    · unfold halvesOf
      split <;> simp
    · subst e
      have h1 := (mem_halvesTo.mp ha).1
      have h2 : a.1 = i := by
        unfold halvesOf at hb
        split at hb
        · rw [List.mem_singleton.mp hb]
        · rcases List.mem_cons.mp hb with z | z
          · rw [z]
          · rw [List.mem_singleton.mp z]
      omega
theorem flat_once : ∀ {Hs : List (List Pt)}, Hs.flatten.Nodup → ∀ (r d r' d' : Nat) (h : Pt), (Hs.getD r [])[d]? = some h → (Hs.getD r' [])[d']? = some h → r = r' ∧ d = d'
  | [], _, r, d, _, _, _, e, _ => by
    have := (rows_lt e).1
    exact (Nat.not_lt_zero _ this).elim
  | L :: Hs, hn, r, d, r', d', h, e, e' => by
    rw [List.flatten_cons] at hn
    obtain ⟨h1, h2, h3⟩ := List.nodup_append.mp hn
    have key : ∀ (r d : Nat), (Hs.getD r [])[d]? = some h → h ∈ Hs.flatten := fun r d e => by
      obtain ⟨a, b⟩ := rows_lt e
      refine List.mem_flatten.mpr ⟨Hs.getD r [], ?_, List.mem_of_getElem? e⟩
      rw [List.getD_eq_getElem?_getD, List.getElem?_eq_getElem a]
      exact List.getElem_mem a
    cases r with
    | zero =>
      cases r' with
      | zero =>
        have e : L[d]? = some h := e
        have e' : L[d']? = some h := e'
        exact ⟨rfl, (List.getElem?_inj (len_lt e) h1).mp (e.trans e'.symm)⟩
      | succ r' =>
        have e : L[d]? = some h := e
        have e' : (Hs.getD r' [])[d']? = some h := e'
        exact (h3 _ (List.mem_of_getElem? e) _ (key r' d' e') rfl).elim
    | succ r =>
      cases r' with
      | zero =>
        have e : (Hs.getD r [])[d]? = some h := e
        have e' : L[d']? = some h := e'
        exact (h3 _ (List.mem_of_getElem? e') _ (key r d e) rfl).elim
      | succ r' =>
        have e : (Hs.getD r [])[d]? = some h := e
        have e' : (Hs.getD r' [])[d']? = some h := e'
        obtain ⟨a, b⟩ := flat_once h2 r d r' d' h e e'
        exact ⟨by omega, b⟩
theorem flat_at {Hs : List (List Pt)} {h : Pt} (hm : h ∈ Hs.flatten) : ∃ r d : Nat, (Hs.getD r [])[d]? = some h := by
  obtain ⟨L, h1, h2⟩ := List.mem_flatten.mp hm
  obtain ⟨r, hr⟩ := List.mem_iff_getElem?.mp h1
  obtain ⟨d, hd⟩ := List.mem_iff_getElem?.mp h2
  exact ⟨r, d, by rw [List.getD_eq_getElem?_getD, hr]; exact hd⟩
theorem halves_ok {n : Nat} {Ps : List Pt} {i : Nat} {Hs : List (List Pt)} (h : Hs.flatten.Perm (halvesTo n Ps i)) : HalvesOk Hs := by
  have hn : Hs.flatten.Nodup := h.nodup_iff.mpr (halvesTo_nodup i)
  have hm : ∀ (r d : Nat) (x : Pt), (Hs.getD r [])[d]? = some x → x ∈ halvesTo n Ps i := fun r d x e => by
    obtain ⟨a, b⟩ := rows_lt e
    refine h.mem_iff.mp (List.mem_flatten.mpr ⟨Hs.getD r [], ?_, List.mem_of_getElem? e⟩)
    rw [List.getD_eq_getElem?_getD, List.getElem?_eq_getElem a]
    exact List.getElem_mem a
  refine ⟨flat_once hn, fun r d x e => ?_, fun r d x e => ?_⟩
  · obtain ⟨_, h2⟩ := mem_halvesTo.mp (hm r d x e)
    split at h2 <;> omega
  · obtain ⟨h1, h2⟩ := mem_halvesTo.mp (hm r d x e)
    refine flat_at (h.mem_iff.mpr (mem_halvesTo.mpr ⟨h1, ?_⟩))
    unfold mate
    show if (Ps.getD x.1 (0, 0)).2 = n then _ else _
    by_cases c : (Ps.getD x.1 (0, 0)).2 = n
    · rw [if_pos c] at h2 ⊢
      show (if x.2 = 0 then 1 else if x.2 = 1 then 0 else 2) = 2
      rw [if_neg (by omega), if_neg (by omega)]
    · rw [if_neg c] at h2 ⊢
      show (if x.2 = 0 then 1 else if x.2 = 1 then 0 else 2) = 0 ∨ (if x.2 = 0 then 1 else if x.2 = 1 then 0 else 2) = 1
      rcases h2 with h2 | h2
      · rw [if_pos h2]; exact .inr rfl
      · rw [if_neg (by omega), if_pos h2]; exact .inl rfl
/-- a half put into a room -/
theorem put_perm : ∀ {Hs : List (List Pt)} {r k : Nat} {x : Pt}, r < Hs.length → (Hs.set r ((Hs.getD r []).take k ++ [x] ++ (Hs.getD r []).drop k)).flatten.Perm (Hs.flatten ++ [x])
  | L :: Hs, 0, k, x, _ => by
    show (L.take k ++ [x] ++ L.drop k ++ Hs.flatten).Perm (L ++ Hs.flatten ++ [x])
    have e : L.take k ++ [x] ++ L.drop k ++ Hs.flatten = L.take k ++ x :: (L.drop k ++ Hs.flatten) := by simp
    rw [e]
    refine List.perm_middle.trans ?_
    rw [← List.append_assoc, List.take_append_drop]
    exact (List.perm_append_singleton x _).symm
  | L :: Hs, r + 1, k, x, h => by
    show (L ++ (Hs.set r ((Hs.getD r []).take k ++ [x] ++ (Hs.getD r []).drop k)).flatten).Perm (L ++ Hs.flatten ++ [x])
    rw [List.append_assoc L Hs.flatten [x]]
    exact List.Perm.append_left L (put_perm (by simpa using h))
end K18
/-! K18 mathematics, part E: the sheets laid over a web. -/
namespace K18
open PySem PySem.Spec PyProof.Rows L2
def leP (x y : Pt) : Bool := decide (x.1 < y.1 ∨ (x.1 = y.1 ∧ x.2 ≤ y.2))
theorem leP_anti {x y : Pt} (h : leP x y = true) (g : leP y x = true) : x = y := by
  unfold leP at h g
  have h := of_decide_eq_true h
  have g := of_decide_eq_true g
  exact Prod.ext (by omega) (by omega)
theorem leP_total {x y : Pt} (h : ¬ leP x y = true) : leP y x = true := by
  unfold leP at *
  rw [decide_eq_true_eq] at *
  omega
/-- the doors of the rooms below i, and those below j of room i -/
def allTo (W : Web) (i j : Nat) : List Pt := allAt W i ++ (List.range j).map fun d => (i, d)
theorem allTo_zero (W : Web) : allTo W 0 0 = [] := rfl
theorem allTo_next (W : Web) (i j : Nat) : allTo W i (j + 1) = allTo W i j ++ [(i, j)] := by
  unfold allTo
  rw [List.range_succ, List.map_append, List.append_assoc]
  rfl
theorem allTo_row (W : Web) (i : Nat) : allTo W i (deg W i) = allAt W (i + 1) := by
  unfold allTo allAt
  rw [List.range_succ, List.flatMap_append]
  simp [deg]
theorem allTo_start (W : Web) (i : Nat) : allTo W i 0 = allAt W i := by unfold allTo; simp
def tieAt (W : Web) (x : Pt) : Bool := leP x (nxt W x.1 x.2)
def withEnd (W : Web) (x : Pt) : Pt × Pt := (x, nxt W x.1 x.2)
def endsTo (W : Web) (i j : Nat) : List (Pt × Pt) := ((allTo W i j).filter (tieAt W)).map (withEnd W)
def endsOf (W : Web) : List (Pt × Pt) := ((allAt W W.length).filter (tieAt W)).map (withEnd W)
theorem allAt_nodup (W : Web) : ∀ m, (allAt W m).Nodup
  | 0 => List.nodup_nil
  | m + 1 => by
    rw [← allTo_row]
    unfold allTo
    refine List.nodup_append.mpr ⟨allAt_nodup W m, ?_, fun a ha c hc e => ?_⟩
    · exact List.Pairwise.map _ (fun a c (h : a ≠ c) z => h (congrArg Prod.snd z)) List.nodup_range
    · have h1 := (mem_allAt.mp ha).1
      obtain ⟨d, _, rfl⟩ := List.mem_map.mp hc
      subst e
      exact Nat.lt_irrefl _ h1
theorem ends_fst (W : Web) : (endsOf W).map (·.1) = (allAt W W.length).filter (tieAt W) := by
  unfold endsOf
  rw [List.map_map]
  exact List.map_id _
theorem ends_nodup (W : Web) : ((endsOf W).map (·.1)).Nodup := by
  rw [ends_fst]
  exact (allAt_nodup W _).filter _
theorem ends_mem {W : Web} {e : Pt × Pt} (h : e ∈ endsOf W) : e.1.2 < deg W e.1.1 ∧ e.2 = nxt W e.1.1 e.1.2 ∧ leP e.1 e.2 = true := by
  obtain ⟨x, hx, rfl⟩ := List.mem_map.mp h
  obtain ⟨h1, h2⟩ := List.mem_filter.mp hx
  exact ⟨(mem_allAt.mp h1).2, rfl, h2⟩
theorem ends_all {W : Web} {x : Pt} (h : x.2 < deg W x.1) (hl : leP x (nxt W x.1 x.2) = true) : x ∈ (endsOf W).map (·.1) := by
  rw [ends_fst]
  exact List.mem_filter.mpr ⟨mem_allAt.mpr ⟨lt_of_deg h, h⟩, hl⟩
theorem allAt_len (W : Web) (c : Nat) (h : ∀ r, deg W r ≤ c) : ∀ m, (allAt W m).length ≤ m * c
  | 0 => Nat.zero_le _
  | m + 1 => by
    rw [← allTo_row]
    unfold allTo
    rw [List.length_append, List.length_map, List.length_range, Nat.succ_mul]
    have := allAt_len W c h m
    have := h m
    omega
theorem ends_len (W : Web) (c : Nat) (h : ∀ r, deg W r ≤ c) : (endsOf W).length ≤ W.length * c := by
  unfold endsOf
  rw [List.length_map]
  exact Nat.le_trans (List.length_filter_le _ _) (allAt_len W c h _)
/-- which tie a door is the first end of -/
def tiePos (W : Web) (x : Pt) : Nat := posOf ((endsOf W).map (·.1)) x
theorem tie_get {W : Web} {x : Pt} (h : x.2 < deg W x.1) (hl : leP x (nxt W x.1 x.2) = true) : (endsOf W)[tiePos W x]? = some (x, nxt W x.1 x.2) := by
  have h1 := pos_get (ends_all h hl)
  obtain ⟨e, he, rfl⟩ := map_get h1
  have := ends_mem (List.mem_of_getElem? he)
  show (endsOf W)[posOf _ _]? = _
  rw [he]
  exact congrArg some (Prod.ext rfl this.2.1)
theorem tie_pos {W : Web} {t : Nat} {e : Pt × Pt} (h : (endsOf W)[t]? = some e) : tiePos W e.1 = t := by
  have h1 : ((endsOf W).map (·.1))[t]? = some e.1 := get_map h
  have h2 := pos_get (List.mem_of_getElem? h1)
  exact (List.getElem?_inj (len_lt h2) (ends_nodup W)).mp (h2.trans h1.symm)
/-- the turns of the ties -/
structure TurnsOk (W : Web) (m : Nat) (Tu : List (List Nat)) : Prop where
  get : ∀ (t : Nat) (e : Pt × Pt), (endsOf W)[t]? = some e → ∃ π, Tu[t]? = some π ∧ TurnOk π m (decide (e.1 = e.2))
def sheetF (W : Web) (Tu : List (List Nat)) (x d : Nat) : Pt :=
  let r := x % W.length
  let y := nxt W r d
  if leP (r, d) y = true then (y.1 + nn (Tu.getD (tiePos W (r, d)) []) (x / W.length) * W.length, y.2)
  else (y.1 + posOf (Tu.getD (tiePos W y) []) (x / W.length) * W.length, y.2)
section
variable {W : Web} {m : Nat} {Tu : List (List Nat)}
theorem sheet_fwd {r d k : Nat} {π : List Nat} (hd : d < deg W r) (hl : leP (r, d) (nxt W r d) = true) (hp : Tu[tiePos W (r, d)]? = some π) : sheetF W Tu (r + k * W.length) d = ((nxt W r d).1 + nn π k * W.length, (nxt W r d).2) := by
  have hr := lt_of_deg hd
  have e1 : (r + k * W.length) % W.length = r := by rw [Nat.add_mul_mod_self_right, Nat.mod_eq_of_lt hr]
  have e2 : (r + k * W.length) / W.length = k := by rw [Nat.add_mul_div_right _ _ (by omega), Nat.div_eq_of_lt hr, Nat.zero_add]
  unfold sheetF
  rw [e1, e2]
  show (if leP (r, d) (nxt W r d) = true then _ else _) = _
  rw [if_pos hl, List.getD_eq_getElem?_getD, hp]
  rfl
theorem sheet_back {r d k : Nat} {π : List Nat} (hd : d < deg W r) (hl : ¬ leP (r, d) (nxt W r d) = true) (hp : Tu[tiePos W (nxt W r d)]? = some π) : sheetF W Tu (r + k * W.length) d = ((nxt W r d).1 + posOf π k * W.length, (nxt W r d).2) := by
  have hr := lt_of_deg hd
  have e1 : (r + k * W.length) % W.length = r := by rw [Nat.add_mul_mod_self_right, Nat.mod_eq_of_lt hr]
  have e2 : (r + k * W.length) / W.length = k := by rw [Nat.add_mul_div_right _ _ (by omega), Nat.div_eq_of_lt hr, Nat.zero_add]
  unfold sheetF
  rw [e1, e2]
  show (if leP (r, d) (nxt W r d) = true then _ else _) = _
  rw [if_neg hl, List.getD_eq_getElem?_getD, hp]
  rfl
theorem sheet_lt {r k n m : Nat} (hr : r < n) (hk : k < m) : r + k * n < m * n := by
  have h : (k + 1) * n ≤ m * n := Nat.mul_le_mul_right n (by omega)
  rw [Nat.succ_mul] at h
  omega
/-- both cells of a tie -/
theorem sheet_tie (vW : Valid W) (hT : TurnsOk W m Tu) {t k : Nat} {e : Pt × Pt} (he : (endsOf W)[t]? = some e) (hk : k < m) : ∃ π, Tu[t]? = some π ∧ TurnOk π m (decide (e.1 = e.2)) ∧ nn π k < m ∧
    sheetF W Tu (e.1.1 + k * W.length) e.1.2 = (e.2.1 + nn π k * W.length, e.2.2) ∧ sheetF W Tu (e.2.1 + nn π k * W.length) e.2.2 = (e.1.1 + k * W.length, e.1.2) := by
  obtain ⟨π, hp, hok⟩ := hT.get t e he
  have htp := tie_pos he
  obtain ⟨⟨r, d⟩, y⟩ := e
  obtain ⟨h1, h2, h3⟩ := ends_mem (List.mem_of_getElem? he)
  have h1 : d < deg W r := h1
  have h2 : y = nxt W r d := h2
  subst h2
  refine ⟨π, hp, hok, hok.lt k hk, sheet_fwd h1 h3 (by rw [htp]; exact hp), ?_⟩
  have hy := vW.dlt r d h1
  have hb := vW.back r d h1
  have hyr := vW.lt r d h1
  by_cases hl : leP (nxt W r d) (r, d) = true
  · have e1 : (r, d) = nxt W r d := leP_anti h3 hl
    have hinv := hok.back (decide_eq_true e1) k hk
    have ey : nxt W r d = (r, d) := e1.symm
    have this : sheetF W Tu (r + nn π k * W.length) d = ((nxt W r d).1 + nn π (nn π k) * W.length, (nxt W r d).2) := sheet_fwd (W := W) (Tu := Tu) (k := nn π k) h1 h3 (by rw [htp]; exact hp)
    rw [hinv, ey] at this
    show sheetF W Tu ((nxt W r d).1 + nn π k * W.length) (nxt W r d).2 = (r + k * W.length, d)
    rw [ey]
    exact this
  · have hl' : ¬ leP ((nxt W r d).1, (nxt W r d).2) (nxt W (nxt W r d).1 (nxt W r d).2) = true := by rw [hb]; exact hl
    have := sheet_back (W := W) (Tu := Tu) (k := nn π k) hy hl' (by rw [hb, htp]; exact hp)
    rw [hb, (pos_of hok).2 k hk] at this
    exact this
/-- every cell is one of a tie's -/
theorem sheet_cell (vW : Valid W) (hT : TurnsOk W m Tu) {x d : Nat} (hx : x < m * W.length) (hd : d < deg W (x % W.length)) : ∃ (t : Nat) (e : Pt × Pt) (k : Nat) (π : List Nat), (endsOf W)[t]? = some e ∧ k < m ∧ Tu[t]? = some π ∧
    ((x = e.1.1 + k * W.length ∧ d = e.1.2) ∨ (x = e.2.1 + nn π k * W.length ∧ d = e.2.2)) := by
  have hn : 0 < W.length := by have := lt_of_deg hd; omega
  have hk : x / W.length < m := Nat.div_lt_of_lt_mul (by rw [Nat.mul_comm]; exact hx)
  have hxe : x = x % W.length + x / W.length * W.length := by rw [Nat.mul_comm]; exact (Nat.mod_add_div x W.length).symm
  by_cases hl : leP (x % W.length, d) (nxt W (x % W.length) d) = true
  · have he := tie_get (x := (x % W.length, d)) hd hl
    obtain ⟨π, hp, hok⟩ := hT.get _ _ he
    exact ⟨_, _, x / W.length, π, he, hk, hp, .inl ⟨hxe, rfl⟩⟩
  · have hy := vW.dlt _ _ hd
    have hb := vW.back _ _ hd
    have hl2 : leP (nxt W (x % W.length) d) (nxt W (nxt W (x % W.length) d).1 (nxt W (x % W.length) d).2) = true := by rw [hb]; exact leP_total hl
    have he := tie_get (x := nxt W (x % W.length) d) hy hl2
    obtain ⟨π, hp, hok⟩ := hT.get _ _ he
    obtain ⟨a, b⟩ := (pos_of hok).1 _ hk
    refine ⟨_, _, posOf π (x / W.length), π, he, a, hp, .inr ?_⟩
    rw [hb, b]
    exact ⟨hxe, rfl⟩
def sheetW (W : Web) (m : Nat) (Tu : List (List Nat)) : Web := mkW (m * W.length) (fun x => deg W (x % W.length)) (sheetF W Tu)
theorem sheet_val (vW : Valid W) (hT : TurnsOk W m Tu) {x d : Nat} (hx : x < m * W.length) (hd : d < deg W (x % W.length)) :
    (sheetF W Tu x d).1 < m * W.length ∧ (sheetF W Tu x d).1 % W.length = (nxt W (x % W.length) d).1 ∧ (sheetF W Tu x d).2 = (nxt W (x % W.length) d).2 ∧ sheetF W Tu (sheetF W Tu x d).1 (sheetF W Tu x d).2 = (x, d) := by
  obtain ⟨t, e, k, π0, he, hk, hp0, hc⟩ := sheet_cell vW hT hx hd
  obtain ⟨π, hp, hok, hlt, h1, h2⟩ := sheet_tie vW hT he hk
  rw [hp0] at hp
  cases hp
  obtain ⟨g1, g2, _⟩ := ends_mem (List.mem_of_getElem? he)
  have hr := lt_of_deg g1
  have hy := vW.lt _ _ g1
  have hb := vW.back _ _ g1
  rw [← g2] at hy hb
  have m1 : ∀ {r k : Nat}, r < W.length → (r + k * W.length) % W.length = r := fun h => by rw [Nat.add_mul_mod_self_right, Nat.mod_eq_of_lt h]
  rcases hc with ⟨rfl, rfl⟩ | ⟨rfl, rfl⟩
  · rw [h1, m1 hr, ← g2]
    exact ⟨sheet_lt hy hlt, m1 hy, rfl, h2⟩
  · rw [h2, m1 hy, hb]
    exact ⟨sheet_lt hr hk, m1 hr, rfl, h1⟩
theorem sheet_valid (vW : Valid W) (hT : TurnsOk W m Tu) : Valid (sheetW W m Tu) := by
  refine mkW_valid fun x d hx hd => ?_
  obtain ⟨h1, h2, h3, h4⟩ := sheet_val vW hT hx hd
  refine ⟨h1, ?_, h4⟩
  rw [h2, h3]
  exact vW.dlt _ _ hd
theorem sheet_cov (vW : Valid W) (hT : TurnsOk W m Tu) : Cov (sheetW W m Tu) W := by
  have key : ∀ x d, d < deg (sheetW W m Tu) x → x < m * W.length ∧ d < deg W (x % W.length) ∧ nxt (sheetW W m Tu) x d = sheetF W Tu x d := fun x d hd => by
    have hx := mkW_lt hd
    have hd2 : d < deg W (x % W.length) := by
      have : deg (sheetW W m Tu) x = deg W (x % W.length) := mkW_deg hx
      rw [this] at hd; exact hd
    exact ⟨hx, hd2, mkW_nxt hx hd2⟩
  have hlen : (sheetW W m Tu).length = m * W.length := mkW_len
  refine ⟨fun x hx => mkW_deg (by rw [hlen] at hx; exact hx), fun x d hd => ?_, fun x d hd => ?_, fun x d hd => ?_⟩
  · obtain ⟨a, b, c⟩ := key x d hd
    rw [c, hlen]; exact (sheet_val vW hT a b).1
  · obtain ⟨a, b, c⟩ := key x d hd
    rw [c]; exact (sheet_val vW hT a b).2.1
  · obtain ⟨a, b, c⟩ := key x d hd
    rw [c]; exact (sheet_val vW hT a b).2.2.1
end
end K18
namespace K18
open PySem PySem.Spec PyProof.Rows L2
section
variable {P : Program} {w : World} {K : PySem.W.Frag} {mg : Str → Option Value} {base : Heap}
/-! _law_joined, _law_doors_put -/
structure PutH (H : Hp) (hl : Addr) (as : List Addr) (Hs : List (List Pt)) : Prop where
  lst : H hl = some (.lst (as.map .ref))
  len : as.length = Hs.length
  row : ∀ (r : Nat) (a : Addr), as[r]? = some a → ∃ ys, H a = some (.lst ys) ∧ Paired (PtV H) ys (Hs.getD r [])
theorem PutH.same {H H' : Hp} {hl : Addr} {as : List Addr} {Hs : List (List Pt)} (h : PutH H hl as Hs) (s : Same H H') : PutH H' hl as Hs :=
  ⟨s _ _ h.lst, h.len, fun r a e => let ⟨ys, h1, h2⟩ := h.row r a e; ⟨ys, s _ _ h1, pts_tm (Tm.of s) h2⟩⟩
theorem PutH.at {H : Hp} {hl : Addr} {as : List Addr} {Hs : List (List Pt)} (h : PutH H hl as Hs) {r : Nat} (hr : r < Hs.length) : ∃ a ys, as[r]? = some a ∧ H a = some (.lst ys) ∧ Paired (PtV H) ys (Hs.getD r []) := by
  have hr2 : r < as.length := by rw [h.len]; exact hr
  have e : as[r]? = some as[r] := List.getElem?_eq_getElem hr2
  obtain ⟨ys, h1, h2⟩ := h.row r _ e
  exact ⟨_, ys, e, h1, h2⟩
/-- the table of the halves' places, those of the rooms below i and the doors below j there -/
structure JInv (Hs : List (List Pt)) (M : List (Pt × Pt)) (i j : Nat) : Prop where
  snd : ∀ x ∈ M, (Hs.getD x.2.1 [])[x.2.2]? = some x.1 ∧ (x.2.1 < i ∨ x.2.1 = i ∧ x.2.2 < j)
  cmp : ∀ (r d : Nat) (h : Pt), (Hs.getD r [])[d]? = some h → (r < i ∨ r = i ∧ d < j) → h ∈ M.map (·.1)
  nd : (M.map (·.1)).Nodup
  len : M.length ≤ 100 * i + j
theorem JInv.new {Hs : List (List Pt)} {M : List (Pt × Pt)} {i j : Nat} (I : JInv Hs M i j) (ok : HalvesOk Hs) {h : Pt} (e : (Hs.getD i [])[j]? = some h) : ¬ h ∈ M.map (·.1) := by
  intro hm
  obtain ⟨x, hx, rfl⟩ := List.mem_map.mp hm
  obtain ⟨h1, h2⟩ := I.snd x hx
  obtain ⟨a, b⟩ := ok.once _ _ _ _ _ h1 e
  omega
theorem JInv.push {Hs : List (List Pt)} {M : List (Pt × Pt)} {i j : Nat} (I : JInv Hs M i j) (ok : HalvesOk Hs) {h : Pt} (e : (Hs.getD i [])[j]? = some h) : JInv Hs (M ++ [(h, (i, j))]) i (j + 1) := by
  refine ⟨fun x hx => ?_, fun r d g hg hrd => ?_, ?_, ?_⟩
  · rcases List.mem_append.mp hx with hx | hx
    · obtain ⟨h1, h2⟩ := I.snd x hx
      exact ⟨h1, by omega⟩
    · have := List.mem_singleton.mp hx
      subst this
      exact ⟨e, .inr ⟨rfl, Nat.lt_succ_self j⟩⟩
  · rw [List.map_append]
    by_cases z : r = i ∧ d = j
    · obtain ⟨rfl, rfl⟩ := z
      rw [e] at hg
      cases hg
      exact List.mem_append_right _ (List.mem_singleton.mpr rfl)
    · exact List.mem_append_left _ (I.cmp r d g hg (by omega))
  · rw [List.map_append]
    refine List.nodup_append.mpr ⟨I.nd, by simp, fun a ha c hc z => ?_⟩
    have := List.mem_singleton.mp hc
    subst z; subst this
    exact I.new ok e ha
  · rw [List.length_append]
    have := I.len
    show M.length + 1 ≤ _
    omega
theorem JInv.row {Hs : List (List Pt)} {M : List (Pt × Pt)} {i : Nat} (I : JInv Hs M i (Hs.getD i []).length) (hl : (Hs.getD i []).length ≤ 100) : JInv Hs M (i + 1) 0 := by
  refine ⟨fun x hx => ?_, fun r d g hg hrd => ?_, I.nd, by have := I.len; omega⟩
  · obtain ⟨h1, h2⟩ := I.snd x hx
    exact ⟨h1, by omega⟩
  · have h2 := (rows_lt hg).2
    refine I.cmp r d g hg ?_
    by_cases z : r = i
    · subst z; exact .inr ⟨rfl, h2⟩
    · exact .inl (by omega)
def joinRow (Hs : List (List Pt)) (r : Nat) : List Pt := (List.range (Hs.getD r []).length).map (joinF Hs r)
abbrev N_law_joined : List Str := ["_law_halves", "_law_at", "_law_room", "_law_door", "_law_half", "_law_web_here", "_law_doors", "_law_tie", "_law_side"]
theorem sc_law_joined : FnScope N_law_joined ["_law_halves"] (defScope s_law_joined) := ⟨rfl, rfl, rfl, by decide +kernel, rfl, by decide +kernel, by decide +kernel⟩
def spJoined : Sp := fun vs H Q _ => ∃ (hl : Addr) (as : List Addr) (Hs : List (List Pt)), vs = [.ref hl] ∧ PutH H hl as Hs ∧ HalvesOk Hs ∧ Hs.length ≤ 24 ∧ (∀ r, (Hs.getD r []).length ≤ 100) ∧ ∀ v H', Same H H' → WebV H' v (joinW Hs) → Q v H'
theorem has_joined (B : Bt mg) (T : Top K mg "_law_joined" s_law_joined) : Has P w K mg base "_law_joined" ["_law_halves"] 1 spJoined := by
  obtain ⟨f, fd, F, hm⟩ := T.ex
  refine ⟨f, fd, ?_, hm, F.kp, F.binds fun _ _ _ _ _ _ us hl => match us, hl with | [_], _ => rfl⟩
  refine F.ok sc_law_joined (fun vs H Q E h => ?_) (fun cdv A outer s H vs Q E hr h => ?_)
  · obtain ⟨hl, as, Hs, rfl, _⟩ := h
    rfl
  · obtain ⟨hl, as, Hs, rfl, hP, ok, hn, hlen, k⟩ := h
    refine ⟨_, (pss_cons (ps_set (i := 1) sc_law_joined.nd rfl (Or.inr rfl) pe_dnewT)
      (pss_cons (ps_for PassesOwn.never rfl (pi_range1 (by rfl) B.range_ (pa_cons (pe_callB (k_len K rfl) (by rfl) B.len_ PySem.boot_len (pa_cons (pv 0) pa_nil)) pa_nil)) (pg_name (i := 2) sc_law_joined.nd rfl (Or.inl rfl))
      (pss_one (ps_for PassesOwn.never rfl (pi_enum (by rfl) B.enumerate_ (pa_cons (pe_ix (k_ixl K rfl) (pv 0) (pv 2) (fun _ _ => rfl)) pa_nil)) (pg_tup rfl (pgs_cons (pg_name (i := 3) sc_law_joined.nd rfl (Or.inl rfl)) (pgs_cons (pg_name (i := 4) sc_law_joined.nd rfl (Or.inl rfl)) pgs_nil)))
      (pss_one (ps_asg (pe_tup (pa_cons (pv 2) (pa_cons (pv 3) pa_nil))) (pg_sub (pv 1) (pv 4) (set_dict (hu_of hr))))))))
      (pss_cons (ps_set (i := 5) sc_law_joined.nd rfl (Or.inl rfl) (pe_lst pa_nil))
      (pss_cons (ps_for PassesOwn.never rfl (pi_list (pv 0)) (pg_name (i := 6) sc_law_joined.nd rfl (Or.inl rfl))
      (pss_one (ps_expr (k_bm K rfl PySem.F.plainAttrs_list PySem.F.slot_list_append PySem.F.type_list_append mt_append (pv 5) (pa_cons (pe_callTy (k_tuple K rfl) (by rfl) B.tuple_ (by decide +kernel) (pa_cons (pe_lc (own := [("_law_tie", 7), ("_law_side", 8)]) (g := gTup K 2 (gCons (gName 7) (gCons (gName 8) gNil))) rfl sc_law_joined.nd (pi_list (pv 6)) (blkOk_by (N := N_law_joined) (sc := defScope s_law_joined) (by decide +kernel)) (fun _ _ _ _ _ => (pg_tup rfl (pgs_cons (pg_name (i := 7) sc_law_joined.nd rfl (Or.inl rfl)) (pgs_cons (pg_name (i := 8) sc_law_joined.nd rfl (Or.inl rfl)) pgs_nil)))) (fun _ _ _ _ _ => pts_nil) (fun _ _ _ _ _ => (pe_dget (hu_of hr) (pv 1) (pe_tup (pa_cons (pv 7) (pa_cons (pe_ix (k_ixl K rfl) (pe_lst (pa_cons pe_int (pa_cons pe_int (pa_cons pe_int pa_nil)))) (pv 8) (fun _ _ => rfl)) pa_nil))) (fun _ _ => rfl)))) pa_nil)) pa_nil)))))
      (pss_one (ps_ret (pe_callTy (k_tuple K rfl) (by rfl) B.tuple_ (by decide +kernel) (pa_cons (pv 5) pa_nil)))))))), ?_⟩
    have hal := hP.len
    refine fun ad had => ?_
    have s0 := same_new (o := .dT []) had
    refine ⟨_, rfl, hl, _, rfl, .inl (SqL.of (s0 _ _ hP.lst)), _, rfl, by rw [List.length_map]; omega, by rw [List.length_map]; omega,
      for_range (lo := 0) (n := _) (fun i σ H' => ∃ (kvs : List (List Key × L2.V)) (M : List (Pt × Pt)) (c2 c3 c4 : Option L2.V), σ = [some (.ref hl), some (.ref ad), c2, c3, c4, none, none, none, none] ∧ Same H H' ∧ H' ad = some (.dT kvs) ∧ DRel (PtV H') kvs M ∧ JInv Hs M i 0)
      ⟨[], [], none, none, none, rfl, s0, upd_same, .nil, fun x hx => (nomatch hx), fun r d h _ z => by omega, List.nodup_nil, Nat.le_refl _⟩ ?_ ?_⟩
    · rintro i σ H' hi ⟨kvs, M, c2, c3, c4, rfl, s1, hd, hM, hJ⟩
      have hi : i < Hs.length := by rw [List.length_map] at hi; omega
      rw [show (0 : Int) + (i : Int) = (i : Int) from Int.zero_add _]
      have hP1 := hP.same s1
      obtain ⟨a, ys, ha, hys, hyp⟩ := hP1.at hi
      obtain ⟨ys0, hys0, hyp0⟩ := hP.row i a ha
      have e0 : ys0 = ys := by have := s1 _ _ hys0; rw [hys] at this; cases this; rfl
      subst e0
      have hat : atI (as.map L2.V.ref) (i : Int) = some (.ref a) := atI_nat (get_map ha)
      have hyl := paired_len hyp
      refine ⟨_, rfl, _, rfl, hl, _, _, _, rfl, rfl, SqL.of hP1.lst, hat, a, ys0, rfl, SqL.of hys,
        for_enumL (fun j σ H' => ∃ (kvs : List (List Key × L2.V)) (M : List (Pt × Pt)) (c3 c4 : Option L2.V), σ = [some (.ref hl), some (.ref ad), some (iv i), c3, c4, none, none, none, none] ∧ Same H H' ∧ H' ad = some (.dT kvs) ∧ DRel (PtV H') kvs M ∧ JInv Hs M i j)
        ⟨kvs, M, _, _, rfl, s1, hd, hM, hJ⟩ (fun j σ H' ⟨_, _, _, _, _, s, _⟩ => SqL.of (s _ _ hys0)) ?_ ?_⟩
      · rintro j v T σ H2 hj ⟨kvs, M, c3, c4, rfl, s2, hd, hM, hJ⟩ hT
        obtain ⟨x, hx, px, rfl, hpx0⟩ := paired_get' hyp0 hj
        have hnm := hJ.new ok hx
        have hMl := hJ.len
        have hjl := (rows_lt hx).2
        have hli := hlen i
        have s3 := same_upd (o := .tup [.int (j : Nat), .ref px]) s2 hT
        have ndT : ad ≠ T := ne_of_none hd hT
        refine ⟨T, _, rfl, SqT.of upd_same, rfl, _, _, rfl, _, _, rfl, rfl, ?_⟩
        refine ⟨_, rfl, _, rfl, sz1000 (by show 2 ≤ 100000; decide), fun t ht => ?_⟩
        have s4 := same_upd (o := .tup [iv i, .int (j : Nat)]) s3 ht
        have ndt : ad ≠ t := ne_of_none (show upd H2 T (.tup [.int (j : Nat), .ref px]) ad = some (.dT kvs) by rw [upd_ne ndT]; exact hd) ht
        have hd4 : upd (upd H2 T (.tup [.int (j : Nat), .ref px])) t (.tup [iv i, .int (j : Nat)]) ad = some (.dT kvs) := by rw [upd_ne ndt, upd_ne ndT]; exact hd
        have hkl : kvs.length = M.length := paired_len hM
        refine ⟨_, rfl, _, rfl, ad, _, rfl, DPut.t (k := pk x) hd4 (s4 _ _ hpx0) (sl1000 (by omega)), ?_⟩
        rw [putK_new _ (drel_none hM hnm)]
        have tm := ((Tm.new (o := .tup [.int (j : Nat), .ref px]) hT).trans (Tm.new (o := .tup [iv i, .int (j : Nat)]) ht)).trans (Tm.dT (o := .dT (kvs ++ [(pk x, .ref t)])) hd4)
        refine ⟨_, M ++ [(x, (i, j))], _, _, rfl, same_mut s4 had, upd_same, paired_snoc ⟨rfl, t, rfl, by rw [upd_ne ndt.symm, upd_same]⟩ (Paired.mapP hM fun _ _ z => ⟨z.1, z.2.tm tm⟩), hJ.push ok hx⟩
      · rintro σ H2 ⟨kvs, M, c3, c4, rfl, s2, hd, hM, hJ⟩
        rw [hyl] at hJ
        exact ⟨kvs, M, _, _, _, rfl, s2, hd, hM, hJ.row (hlen i)⟩
    · rintro σ H' ⟨kvs, M, c2, c3, c4, rfl, s1, hd, hM, hJ⟩
      rw [List.length_map, Int.toNat_natCast, hal] at hJ
      refine ⟨Nat.zero_le _, fun wl hwl => ?_⟩
      have s2 := same_upd (o := .lst []) s1 hwl
      have ndw : ad ≠ wl := ne_of_none hd hwl
      have hwl0 := s1.free hwl
      refine ⟨_, rfl, hl, rfl, ⟨_, SqL.of (s2 _ _ hP.lst)⟩, for_list (K := K) (a := hl) (xs := as.map .ref) (fun i σ H' => ∃ (ws : List L2.V) (dv : Option L2.V), σ = [some (.ref hl), some (.ref ad), c2, c3, c4, some (.ref wl), dv, none, none] ∧ Same H H' ∧ H' ad = some (.dT kvs) ∧ DRel (PtV H') kvs M ∧ H' wl = some (.lst ws) ∧ Paired (RowV H') ws ((List.range i).map (joinRow Hs)))
        ⟨[], none, rfl, s2, by rw [upd_ne ndw]; exact hd, Paired.mapP hM fun _ _ z => ⟨z.1, z.2.tm (Tm.new hwl)⟩, upd_same, .nil⟩ (fun i σ H' _ ⟨_, _, _, s, _⟩ => SqL.of (s _ _ hP.lst)) ?_ ?_⟩
      · rintro i v σ H3 hv ⟨ws, dv, rfl, s3, hd3, hM3, hw3, hws⟩
        obtain ⟨a, ha, rfl⟩ := map_get hv
        have hi : i < Hs.length := by have := len_lt ha; omega
        have hP3 := hP.same s3
        obtain ⟨ys, hys, hyp⟩ := hP3.row i a ha
        have hyl := paired_len hyp
        have hli := hlen i
        have hwsl : ws.length = i := by rw [paired_len hws]; simp
        refine ⟨_, rfl, .inl ⟨rfl, _, SqL.of hw3⟩, _, rfl, a, rfl, ⟨_, SqL.of hys⟩, fun D hD => lcP walk_list (fun j H z => PtV H z (joinF Hs i j)) hD (by omega) (fun H' s => SqL.of (s _ _ hys)) (fun j z H' H'' hA r k => r.tm (r_tm hA k)) (fun i Hi x Hx y => y_at y) ?_ ?_⟩
        · rintro j v Hi Hx Qc hj s4 _ ⟨rfl, hx⟩ q2
          obtain ⟨x, hx2, px, rfl, hpx⟩ := paired_get' hyp hx
          obtain ⟨r', d', e1, e2⟩ := join_ok ok hx2
          have hside := ok.side i j x hx2
          have hmem := hJ.cmp r' d' (mate x) e2 (.inl (rows_lt e2).1)
          obtain ⟨z, hz, ez⟩ := List.mem_map.mp hmem
          obtain ⟨zi, hzi⟩ := List.mem_iff_getElem?.mp hz
          obtain ⟨v, hv1, hv2⟩ := drel_some hM3 hJ.nd hzi
          have ezp : z.2 = joinF Hs i j := by
            obtain ⟨a1, a2⟩ := ok.once _ _ _ _ _ (hJ.snd z hz).1 (by rw [ez]; exact e2)
            rw [e1]; exact Prod.ext a1 a2
          rw [ez] at hv1
          rw [ezp] at hv2
          have h3 : atI [L2.V.int 1, .int 0, .int 2] (x.2 : Int) = some (iv (mate x).2) := by
            obtain ⟨xt, xs⟩ := x
            have : xs = 0 ∨ xs = 1 ∨ xs = 2 := by
              have hside : xs ≤ 2 := hside
              omega
            rcases this with rfl | rfl | rfl <;> rfl
          refine ⟨px, _, rfl, SqT.of (s4 _ _ hpx), rfl, _, _, rfl, _, _, rfl, rfl, rfl, ?_⟩
          refine ⟨_, rfl, _, rfl, sz1000 (by show 3 ≤ 100000; decide), fun c hc => ⟨_, rfl, c, _, _, _, rfl, rfl, SqL.of upd_same, h3, sz1000 (by show 2 ≤ 100000; decide), fun t ht => ⟨ad, v, rfl, hv1 ▸ DGet.t (k := pk (mate x)) (kvs := kvs) ?_ upd_same, ?_⟩⟩⟩
          · exact same_upd (same_new hc) ht _ _ (s4 _ _ hd3)
          · have sc := same_upd (o := .tup [iv x.1, iv (mate x).2]) (same_new (o := .lst [L2.V.int 1, .int 0, .int 2]) hc) ht
            exact q2 _ _ sc ((hv2.tm (Tm.of s4)).tm (Tm.of sc))
        intro H4 acc s4 hA hlen4 hval
        refine ⟨D, acc, rfl, .inl ⟨SqL.of hA, fun t ht => ?_⟩⟩
        have s5 := same_upd (o := .tup acc) s4 ht
        have hw5 := s5 _ _ hw3
        refine ⟨wl, ws, .ref t, rfl, rfl, hw5, sl1000 (by omega), ?_⟩
        have tm6 : Tm (upd H4 t (.tup acc)) (upd (upd H4 t (.tup acc)) wl (.lst (ws ++ [.ref t]))) := Tm.lst hw5
        have tm : Tm H3 (upd (upd H4 t (.tup acc)) wl (.lst (ws ++ [.ref t]))) := (Tm.of s5).trans tm6
        refine ⟨ws ++ [.ref t], _, rfl, same_mut (s3.trans s5) hwl0, by rw [upd_ne ndw]; exact s5 _ _ hd3, Paired.mapP hM3 fun _ _ z => ⟨z.1, z.2.tm tm⟩, upd_same, ?_⟩
        rw [List.range_succ, List.map_append]
        refine paired_snoc ⟨t, acc, rfl, tm6 _ _ upd_same, paired_of (by rw [hlen4, hyl]; unfold joinRow; simp) fun d y z hy hz => ?_⟩ (Paired.mapP hws fun _ _ z => z.tm tm)
        have hd' : d < (Hs.getD i []).length := by have := len_lt hy; omega
        have ez : z = joinF Hs i d := Option.some.inj (hz.symm.trans (rg_get hd'))
        rw [ez]
        exact (hval d y hy).tm ((Tm.new ht).trans tm6)
      · rintro σ H3 ⟨ws, dv, rfl, s3, hd3, hM3, hw3, hws⟩
        rw [List.length_map, hal] at hws
        refine ⟨_, rfl, wl, ws, rfl, .inl ⟨SqL.of hw3, fun t ht => ?_⟩⟩
        exact k _ _ (same_upd s3 ht) (webV_of upd_same (Paired.mapP hws fun _ _ z => z.tm (Tm.new ht)))
end
end K18
namespace K18
open PySem PySem.Spec PyProof.Rows L2
section
variable {P : Program} {w : World} {K : PySem.W.Frag} {mg : Str → Option Value} {base : Heap}
/-! _law_doors_put -/
theorem row_len : ∀ (Hs : List (List Pt)) (r : Nat), (Hs.getD r []).length ≤ Hs.flatten.length
  | [], r => by rw [List.getD_eq_getElem?_getD, List.getElem?_nil]; exact Nat.zero_le _
  | L :: Hs, 0 => by rw [List.flatten_cons, List.length_append]; show L.length ≤ _; omega
  | L :: Hs, r + 1 => by
    rw [List.flatten_cons, List.length_append]
    have := row_len Hs r
    show (Hs.getD r []).length ≤ _
    omega
theorem halvesTo_len (n : Nat) (Ps : List Pt) : ∀ i, (halvesTo n Ps i).length ≤ 2 * i
  | 0 => Nat.le_refl _
  | i + 1 => by
    rw [halvesTo_succ, List.length_append]
    have := halvesTo_len n Ps i
    have h2 : (halvesOf n i (Ps.getD i (0, 0))).length ≤ 2 := by unfold halvesOf; split <;> simp
    omega
theorem paired_ins {α β : Type} {R : α → β → Prop} {y : α} {z : β} (h : R y z) : ∀ {ys : List α} {zs : List β} (r : Nat), Paired R ys zs → Paired R (ys.take r ++ [y] ++ ys.drop r) (zs.take r ++ [z] ++ zs.drop r)
  | _, _, 0, p => .cons h p
  | _, _, r + 1, .nil => .cons h .nil
  | _, _, r + 1, .cons a t => .cons a (paired_ins h r t)
theorem side_half {n t : Nat} {x s : Pt} {k : Nat} (h : (sidesOf n x)[k]? = some s) (hx : x.1 < n) (hx2 : x.2 ≤ n) : (halvesOf n t x)[k]? = some (t, s.2) ∧ s.1 < n := by
  unfold sidesOf at h
  unfold halvesOf
  by_cases e : x.2 = n
  · rw [if_pos e] at h ⊢
    cases k with
    | zero => cases h; exact ⟨rfl, hx⟩
    | succ k => simp at h
  · rw [if_neg e] at h ⊢
    cases k with
    | zero => cases h; exact ⟨rfl, hx⟩
    | succ k =>
      cases k with
      | zero => cases h; exact ⟨rfl, by show x.2 < n; omega⟩
      | succ k => simp at h
theorem side_len (n t : Nat) (x : Pt) : (sidesOf n x).length = (halvesOf n t x).length ∧ (sidesOf n x).length ≤ 2 := by
  unfold sidesOf halvesOf
  split <;> simp
theorem sides_q {K : PySem.W.Frag} {σ : L2.St} {H : Hp} {Q : VK} {x : Pt} {m : Nat} (h5 : σ[5]? = some (some (iv x.1))) (h6 : σ[6]? = some (some (iv x.2))) (h2 : σ[2]? = some (some (iv m)))
    (q : ∀ sl ss H', Same H H' → H sl = none → H' sl = some (.lst ss) → Paired (PtV H') ss (sidesOf m x) → Q (.ref sl) H') :
    tIf (tTest (tOp rEq (tVar 6) (tVar 2))) (tLst (tCons (tTup (tCons (tVar 5) (tCons (tC (.int 2)) tNil))) tNil)) (tLst (tCons (tTup (tCons (tVar 5) (tCons (tC (.int 0)) tNil))) (tCons (tTup (tCons (tVar 6) (tCons (tC (.int 1)) tNil))) tNil))) σ H Q := by
  refine ⟨_, h6, _, h2, rfl, _, rfl, ?_⟩
  unfold sidesOf at q
  by_cases e : x.2 = m
  · rw [if_pos e] at q
    rw [e, decide_eq_true rfl]
    refine iteT ⟨_, h5, sz1000 (by show 2 ≤ 100000; decide), fun t1 ht1 => ⟨sz1000 (by show 1 ≤ 100000; decide), fun sl hsl => ?_⟩⟩
    have n1 : t1 ≠ sl := ne_of_none upd_same hsl
    exact q sl _ _ (same_upd (same_new ht1) hsl) ((same_new ht1).free hsl) upd_same (.cons ⟨t1, rfl, by rw [upd_ne n1, upd_same]; rfl⟩ .nil)
  · rw [if_neg e] at q
    rw [decide_eq_false (fun z => e (by have := L2.V.int.inj z; omega))]
    refine iteF ⟨_, h5, sz1000 (by show 2 ≤ 100000; decide), fun t1 ht1 => ⟨_, h6, sz1000 (by show 2 ≤ 100000; decide), fun t2 ht2 => ⟨sz1000 (by show 2 ≤ 100000; decide), fun sl hsl => ?_⟩⟩⟩
    have n12 : t1 ≠ t2 := ne_of_none upd_same ht2
    have n2 : t2 ≠ sl := ne_of_none upd_same hsl
    have n1 : t1 ≠ sl := ne_of_none (same_new ht2 _ _ upd_same) hsl
    exact q sl _ _ (same_upd (same_upd (same_new ht1) ht2) hsl) ((same_new ht1).free ((same_new ht2).free hsl)) upd_same (.cons ⟨t1, rfl, by rw [upd_ne n1, upd_ne n12, upd_same]; rfl⟩ (.cons ⟨t2, rfl, by rw [upd_ne n2, upd_same]; rfl⟩ .nil))
/-- the lists of halves are the builder's own -/
structure Own (H0 : Hp) (b hl : Addr) (as : List Addr) : Prop where
  nd : as.Nodup
  new : ∀ a ∈ as, H0 a = none ∧ a ≠ hl ∧ a ≠ b
  hl0 : H0 hl = none
  hlb : hl ≠ b
abbrev N_law_doors_put : List Str := ["_law_box_here", "_law_pairs", "_law_many", "_law_halves", "_law_tie", "_law_one", "_law_other", "_law_sides", "_law_room", "_law_side"]
theorem sc_law_doors_put : FnScope N_law_doors_put ["_law_box_here", "_law_pairs", "_law_many"] (defScope s_law_doors_put) := ⟨rfl, rfl, rfl, by decide +kernel, rfl, by decide +kernel, by decide +kernel⟩
def spPut : Sp := fun vs H Q _ => ∃ (b pl : Addr) (m f : Nat) (ps : List L2.V) (Ps : List Pt), vs = [.ref b, .ref pl, iv m] ∧ BoxOk H b f ∧ f + 200 ≤ 1000000000 ∧ H pl = some (.lst ps) ∧ pl ≠ b ∧ Paired (PtV H) ps Ps ∧ (∀ x ∈ Ps, x.1 < m ∧ x.2 ≤ m) ∧ 0 < m ∧ m ≤ 24 ∧ Ps.length ≤ 50 ∧
  ∀ v H' W, BK b H H' → BoxOk H' b (f + 200) → Made H' v W m → Q v H'
theorem has_put (B : Bt mg) (T : Top K mg "_law_doors_put" s_law_doors_put) (H_law_take_ : Has P w K mg base "_law_take" ["_law_box_here", "_law_many"] 1 spTake) (H_law_joined_ : Has P w K mg base "_law_joined" ["_law_halves"] 1 spJoined) :
    Has P w K mg base "_law_doors_put" ["_law_box_here", "_law_pairs", "_law_many"] 2 spPut := by
  obtain ⟨f_law_take_, fd_law_take_, G_law_take_, m_law_take_, kp_law_take_, b_law_take_⟩ := H_law_take_.ex
  obtain ⟨f_law_joined_, fd_law_joined_, G_law_joined_, m_law_joined_, kp_law_joined_, b_law_joined_⟩ := H_law_joined_.ex
  obtain ⟨f, fd, F, hm⟩ := T.ex
  refine ⟨f, fd, ?_, hm, F.kp, F.binds fun _ _ _ _ _ _ us hl => match us, hl with | [_, _, _], _ => rfl⟩
  refine F.ok sc_law_doors_put (fun vs H Q E h => ?_) (fun cdv A outer s H vs Q E hr h => ?_)
  · obtain ⟨b, pl, m, f, ps, Ps, rfl, _⟩ := h
    rfl
  · obtain ⟨b, pl, m, f, ps, Ps, rfl, hb, hf, hpl, hplb, hps, hPs, hm0, hm, hPl, k⟩ := h
    refine ⟨_, (pss_cons (ps_setLc (i := 3) (own := [("_law_room", 8)]) (g := gName 8) rfl sc_law_doors_put.nd rfl rfl (sw_true rfl rfl rfl (by decide +kernel)) (pi_range1 (by rfl) B.range_ (pa_cons (pv 2) pa_nil)) (blkOk_by (N := N_law_doors_put) (sc := defScope s_law_doors_put) (by decide +kernel)) (fun _ _ _ _ _ => (pg_name (i := 8) sc_law_doors_put.nd rfl (Or.inl rfl))) (fun _ _ _ _ _ => pts_nil) (fun _ _ _ _ _ => (pe_lst pa_nil)))
      (pss_cons (ps_for PassesOwn.never rfl (pi_enum (by rfl) B.enumerate_ (pa_cons (pv 1) pa_nil)) (pg_tup rfl (pgs_cons (pg_name (i := 4) sc_law_doors_put.nd rfl (Or.inl rfl)) (pgs_cons (pg_tup rfl (pgs_cons (pg_name (i := 5) sc_law_doors_put.nd rfl (Or.inl rfl)) (pgs_cons (pg_name (i := 6) sc_law_doors_put.nd rfl (Or.inl rfl)) pgs_nil))) pgs_nil)))
      (pss_cons (ps_set (i := 7) sc_law_doors_put.nd rfl (Or.inl rfl) (pe_ifExp (pt_cmpR op_eq (pv 6) (pv 2) (nomark _)) (pe_lst (pa_cons (pe_tup (pa_cons (pv 5) (pa_cons pe_int pa_nil))) pa_nil)) (pe_lst (pa_cons (pe_tup (pa_cons (pv 5) (pa_cons pe_int pa_nil))) (pa_cons (pe_tup (pa_cons (pv 6) (pa_cons pe_int pa_nil))) pa_nil)))))
      (pss_one (ps_for PassesOwn.never rfl (pi_list (pv 7)) (pg_tup rfl (pgs_cons (pg_name (i := 8) sc_law_doors_put.nd rfl (Or.inl rfl)) (pgs_cons (pg_name (i := 9) sc_law_doors_put.nd rfl (Or.inl rfl)) pgs_nil)))
      (pss_one (ps_expr (k_bm K rfl PySem.F.plainAttrs_list PySem.F.slot_list_insert PySem.F.type_list_insert mt_insert (pe_ix (k_ixl K rfl) (pv 3) (pv 8) (fun _ _ => rfl)) (pa_cons (pe_call G_law_take_ (hr.mono (by decide)) (by rfl) m_law_take_ kp_law_take_ b_law_take_ .nil pass0 (pa_cons (pv 0) (pa_cons (pe_op op_add (pe_callB (k_len K rfl) (by rfl) B.len_ PySem.boot_len (pa_cons (pe_ix (k_ixl K rfl) (pv 3) (pv 8) (fun _ _ => rfl)) pa_nil)) pe_int) pa_nil))) (pa_cons (pe_tup (pa_cons (pv 4) (pa_cons (pv 9) pa_nil))) pa_nil)))))))))
      (pss_one (ps_ret (pe_call G_law_joined_ (hr.mono (by decide)) (by rfl) m_law_joined_ kp_law_joined_ b_law_joined_ .nil pass0 (pa_cons (pv 3) pa_nil)))))), ?_⟩
    have hpsl := paired_len hps
    refine ⟨_, rfl, (m : Int), rfl, by omega, by omega, fun hl hhl => ?_⟩
    refine lcFresh walk_range (fun _ => []) hhl (by omega) (fun _ _ => trivial) (fun i Hi x Hx y => y_fn y) ?_ ?_
    · rintro i v Hi Hx Qc hi s2 ⟨rfl, rfl⟩ q2
      exact ⟨rfl, Nat.zero_le _, fun a ha => q2 a _ (same_new ha) ha upd_same⟩
    intro H1 as s1 hA haslen hasnd has1
    have hasl : as.length = m := by rw [haslen]; omega
    have k1 : BK b H H1 := .of s1 hb.some
    have own : Own H b hl as := ⟨hasnd, fun a ha => by
      obtain ⟨j, hj⟩ := List.mem_iff_getElem?.mp ha
      obtain ⟨_, h2, h3⟩ := has1 j a hj
      exact ⟨h2, h3, (BK.refl hb.some).ne h2⟩, hhl, (BK.refl hb.some).ne hhl⟩
    have hP1 : PutH H1 hl as (List.replicate m []) := ⟨hA, by rw [hasl, List.length_replicate], fun r a e => ⟨[], (has1 r a e).1, by
      have : (List.replicate m ([] : List Pt)).getD r [] = [] := by
        rw [List.getD_eq_getElem?_getD, List.getElem?_replicate]
        split <;> rfl
      rw [this]; exact .nil⟩⟩
    have hflat : (List.replicate m ([] : List Pt)).flatten = [] := by simp
    refine ⟨_, rfl, pl, ps, rfl, SqL.of (s1 _ _ hpl), for_enumL (fun i σ H' => ∃ (Hs : List (List Pt)) (c4 c5 c6 c7 c8 c9 : Option L2.V), σ = [some (.ref b), some (.ref pl), some (iv m), some (.ref hl), c4, c5, c6, c7, c8, c9] ∧ BK b H H' ∧ BoxOk H' b (f + 2 * i) ∧ i ≤ Ps.length ∧ PutH H' hl as Hs ∧ Hs.length = m ∧ Hs.flatten.Perm (halvesTo m Ps i))
      ⟨List.replicate m [], none, none, none, none, none, none, rfl, k1, hb.same s1, Nat.zero_le _, hP1, List.length_replicate, by rw [hflat]; exact List.Perm.refl _⟩ (fun i σ H' ⟨_, _, _, _, _, _, _, _, k2, _⟩ => SqL.of (k2.keep _ _ hpl hplb)) ?_ ?_⟩
    · rintro i v T σ H2 hi ⟨Hs, c4, c5, c6, c7, c8, c9, rfl, k2, b2, hil, hP2, hHl, hperm⟩ hT
      obtain ⟨x, hx, px, rfl, hpx⟩ := paired_get' hps hi
      obtain ⟨hx1, hx2⟩ := hPs x (List.mem_of_getElem? hx)
      have hi2 := len_lt hx
      have hgx : Ps.getD i (0, 0) = x := by rw [List.getD_eq_getElem?_getD, hx]; rfl
      have s3 := same_new (o := .tup [.int (i : Nat), .ref px]) hT
      have k3 := k2.same s3
      refine ⟨T, _, rfl, SqT.of upd_same, rfl, _, _, rfl, _, _, rfl, ⟨px, _, rfl, SqT.of (k3.tm _ _ hpx), rfl, _, _, rfl, _, _, rfl, rfl, rfl, ?_⟩⟩
      refine sides_q (K := K) (x := x) (m := m) rfl rfl rfl fun sl ss H4 s4 hsl0 hsl hss => ?_
      have k4 := k3.same s4
      have s34 := s3.trans s4
      have nslb : sl ≠ b := k3.ne hsl0
      have nsla : ∀ a ∈ as, sl ≠ a := fun a ha e => by
        obtain ⟨r, hr1⟩ := List.mem_iff_getElem?.mp ha
        obtain ⟨ys, hys, _⟩ := hP2.row r a hr1
        have := s3 _ _ hys
        rw [← e, hsl0] at this; cases this
      have hssl := paired_len hss
      obtain ⟨hsl3, hsl4⟩ := side_len m i x
      refine ⟨_, rfl, sl, rfl, ⟨_, SqL.of hsl⟩, for_list (K := K) (a := sl) (xs := ss) (fun j σ H' => ∃ (Hs : List (List Pt)) (c8 c9 : Option L2.V), σ = [some (.ref b), some (.ref pl), some (iv m), some (.ref hl), some (iv i), some (iv x.1), some (iv x.2), some (.ref sl), c8, c9] ∧ BK b H H' ∧ BoxOk H' b (f + 2 * i + j) ∧ H' sl = some (.lst ss) ∧ Paired (PtV H') ss (sidesOf m x) ∧ PutH H' hl as Hs ∧ Hs.length = m ∧ Hs.flatten.Perm (halvesTo m Ps i ++ (halvesOf m i x).take j))
        ⟨Hs, _, _, rfl, k4, b2.same s34, hsl, hss, hP2.same s34, hHl, by rw [List.take_zero, List.append_nil]; exact hperm⟩ (fun j σ H' _ ⟨_, _, _, _, _, _, h, _⟩ => SqL.of h) ?_ ?_⟩
      · rintro j v σ H5 hj ⟨Hs, c8, c9, rfl, k5, b5, hsl5, hss5, hP5, hHl5, hperm5⟩
        obtain ⟨s, hs, ps', rfl, hps'⟩ := paired_get' hss5 hj
        obtain ⟨hh, hs1⟩ := side_half (t := i) hs hx1 hx2
        obtain ⟨a, ys, ha, hys, hyp⟩ := hP5.at (r := s.1) (by omega)
        have hat : atI (as.map L2.V.ref) (s.1 : Int) = some (.ref a) := atI_nat (get_map ha)
        have hyl := paired_len hyp
        have hrow := row_len Hs s.1
        have hfl : Hs.flatten.length ≤ 104 := by
          rw [hperm5.length_eq, List.length_append, List.length_take]
          have := halvesTo_len m Ps i
          omega
        obtain ⟨ha0, hahl, hab⟩ := own.new a (List.mem_of_getElem? ha)
        refine ⟨ps', _, rfl, SqT.of hps', rfl, _, _, rfl, _, _, rfl, rfl, ?_⟩
        refine ⟨_, rfl, _, rfl, hl, _, _, _, rfl, rfl, SqL.of hP5.lst, hat, .inl ⟨rfl, _, SqL.of hys⟩, _, rfl, _, rfl, _, rfl, hl, _, _, _, rfl, rfl, SqL.of hP5.lst, hat, a, ys, rfl, .inl (SqL.of hys), _, _, rfl, rfl, b, ys.length + 1, f + 2 * i + j, rfl, b5, by have := len_lt hs; omega, by omega, by omega, fun r H6 hr6 k6 b6 => ?_⟩
        refine ⟨_, rfl, _, rfl, sz1000 (by show 2 ≤ 100000; decide), fun t ht => ?_⟩
        have hys6 := k6.keep _ _ hys hab
        have hhl6 := k6.keep _ _ hP5.lst own.hlb
        have nat' : a ≠ t := ne_of_none hys6 ht
        refine ⟨a, ys, (r : Int), .ref t, rfl, rfl, by rw [upd_ne nat']; exact hys6, sl1000 (by omega), by omega, by omega, ?_⟩
        rw [Int.toNat_natCast]
        have k7 := (k5.trans k6).new (o := .tup [iv i, iv s.2]) ht
        have tm56 : Tm H5 (upd H6 t (.tup [iv i, iv s.2])) := k6.tm.trans (Tm.new ht)
        have tm8 : Tm (upd H6 t (.tup [iv i, iv s.2])) (upd (upd H6 t (.tup [iv i, iv s.2])) a (.lst (ys.take r ++ [.ref t] ++ ys.drop r))) := Tm.lst (by rw [upd_ne nat']; exact hys6)
        refine ⟨Hs.set s.1 ((Hs.getD s.1 []).take r ++ [(i, s.2)] ++ (Hs.getD s.1 []).drop r), _, _, rfl, k7.mut ha0, (b6.same (same_new ht)).keep (upd_ne hab.symm), ?_, pts_tm (tm56.trans tm8) hss5, ⟨?_, by rw [List.length_set]; exact hP5.len, fun q a' e => ?_⟩, by rw [List.length_set]; exact hHl5, ?_⟩
        · rw [upd_ne (nsla a (List.mem_of_getElem? ha))]
          exact same_new ht _ _ (k6.keep _ _ hsl5 nslb)
        · rw [upd_ne hahl.symm]
          exact same_new ht _ _ hhl6
        · by_cases eq : q = s.1
          · subst eq
            rw [ha] at e
            cases e
            refine ⟨_, upd_same, ?_⟩
            rw [List.getD_eq_getElem?_getD, List.getElem?_set, if_pos rfl, if_pos (by omega)]
            exact paired_ins ⟨t, rfl, tm8 _ _ upd_same⟩ r (pts_tm (tm56.trans tm8) hyp)
          · have hne : a' ≠ a := fun z => by
              subst z
              exact eq ((List.getElem?_inj (len_lt e) own.nd).mp (e.trans ha.symm))
            obtain ⟨ys', hy1, hy2⟩ := hP5.row q a' e
            obtain ⟨_, _, hab'⟩ := own.new a' (List.mem_of_getElem? e)
            refine ⟨ys', by rw [upd_ne hne]; exact same_new ht _ _ (k6.keep _ _ hy1 hab'), ?_⟩
            rw [List.getD_eq_getElem?_getD, List.getElem?_set, if_neg (Ne.symm eq), ← List.getD_eq_getElem?_getD]
            exact pts_tm (tm56.trans tm8) hy2
        · refine (put_perm (by omega)).trans ?_
          rw [List.take_add_one, hh]
          show (Hs.flatten ++ [(i, s.2)]).Perm (halvesTo m Ps i ++ ((halvesOf m i x).take j ++ [(i, s.2)]))
          rw [← List.append_assoc]
          exact List.Perm.append_right _ hperm5
      · rintro σ H5 ⟨Hs, c8, c9, rfl, k5, b5, hsl5, hss5, hP5, hHl5, hperm5⟩
        refine ⟨Hs, _, _, _, _, _, _, rfl, k5, b5.le (by omega), hi2, hP5, hHl5, ?_⟩
        rw [halvesTo_succ, hgx]
        rw [hssl, hsl3, List.take_length] at hperm5
        exact hperm5
    · rintro σ H2 ⟨Hs, c4, c5, c6, c7, c8, c9, rfl, k2, b2, hil, hP2, hHl, hperm⟩
      have hfl : Hs.flatten.length ≤ 100 := by
        rw [hperm.length_eq]
        have := halvesTo_len m Ps ps.length
        omega
      refine ⟨_, rfl, hl, as, Hs, rfl, hP2, halves_ok hperm, by omega, fun r => Nat.le_trans (row_len Hs r) hfl, fun v H' s hW => ?_⟩
      refine k v H' (joinW Hs) (k2.same s) ((b2.same s).le (by omega)) ⟨hW, join_valid (halves_ok hperm), by rw [joinW_len]; exact hHl, mkW_doors fun r _ => Nat.le_trans (row_len Hs r) hfl⟩
end
end K18
namespace K18
open PySem PySem.Spec PyProof.Rows L2
section
variable {P : Program} {w : World} {K : PySem.W.Frag} {mg : Str → Option Value} {base : Heap}
/-! _law_web -/
theorem sum_bump : ∀ {U : List Nat} {x : Nat}, x < U.length → (U.set x (nn U x + 1)).sum = U.sum + 1
  | u :: U, 0, _ => by show (u + 1) + U.sum = u + U.sum + 1; omega
  | u :: U, x + 1, h => by
    have h2 := sum_bump (U := U) (x := x) (by simpa using h)
    show u + (U.set x (nn U x + 1)).sum = u + U.sum + 1
    omega
theorem sum_ge : ∀ {U : List Nat} {k : Nat}, k ≤ U.length → (∀ j, j < k → 2 ≤ nn U j) → 2 * k ≤ U.sum
  | _, 0, _, _ => by omega
  | [], k + 1, h, _ => by simp at h
  | u :: U, k + 1, h, g => by
    have h1 : 2 ≤ u := g 0 (by omega)
    have h2 := sum_ge (U := U) (k := k) (by simpa using h) fun j hj => g (j + 1) (by omega)
    show 2 * (k + 1) ≤ u + U.sum
    omega
theorem bools_of : ∀ {acc : List V}, (∀ (j : Nat) (z : V), acc[j]? = some z → ∃ c, z = .bl c) → ∃ bs : List Bool, acc = bs.map V.bl
  | [], _ => ⟨[], rfl⟩
  | a :: acc, h => by
    obtain ⟨c, rfl⟩ := h 0 a rfl
    obtain ⟨bs, rfl⟩ := bools_of (acc := acc) fun j z hz => h (j + 1) z hz
    exact ⟨c :: bs, rfl⟩
/-- the counts of used doors, side by side with the ties put -/
structure WInv (H : Hp) (ul pl : Addr) (m : Nat) (U : List Nat) (ps : List V) (Ps : List Pt) : Prop where
  u : H ul = some (.lst (U.map iv))
  ulen : U.length = m
  p : H pl = some (.lst ps)
  pp : Paired (PtV H) ps Ps
  ok : ∀ x ∈ Ps, x.1 < m ∧ x.2 ≤ m
theorem WInv.keep {H H' : Hp} {ul pl : Addr} {m : Nat} {U : List Nat} {ps : List V} {Ps : List Pt} (h : WInv H ul pl m U ps Ps) (e1 : H' ul = H ul) (e2 : H' pl = H pl) (t : Tm H H') : WInv H' ul pl m U ps Ps :=
  ⟨by rw [e1]; exact h.u, h.ulen, by rw [e2]; exact h.p, pts_tm t h.pp, h.ok⟩
theorem WInv.same {H H' : Hp} {ul pl : Addr} {m : Nat} {U : List Nat} {ps : List V} {Ps : List Pt} (h : WInv H ul pl m U ps Ps) (s : Same H H') : WInv H' ul pl m U ps Ps :=
  h.keep (by rw [h.u]; exact s _ _ h.u) (by rw [h.p]; exact s _ _ h.p) (Tm.of s)
theorem WInv.bk {H H' : Hp} {b ul pl : Addr} {m : Nat} {U : List Nat} {ps : List V} {Ps : List Pt} (h : WInv H ul pl m U ps Ps) (s : BK b H H') (n1 : ul ≠ b) (n2 : pl ≠ b) : WInv H' ul pl m U ps Ps :=
  h.keep (by rw [h.u]; exact s.keep _ _ h.u n1) (by rw [h.p]; exact s.keep _ _ h.p n2) s.tm
theorem WInv.bump {H : Hp} {ul pl : Addr} {m : Nat} {U : List Nat} {ps : List V} {Ps : List Pt} (h : WInv H ul pl m U ps Ps) (n : ul ≠ pl) (U' : List Nat) (hl : U'.length = m) : WInv (upd H ul (.lst (U'.map iv))) ul pl m U' ps Ps :=
  ⟨upd_same, hl, by rw [upd_ne n.symm]; exact h.p, pts_tm (Tm.lst h.u) h.pp, h.ok⟩
theorem WInv.push {H : Hp} {ul pl : Addr} {m : Nat} {U : List Nat} {ps : List V} {Ps : List Pt} (h : WInv H ul pl m U ps Ps) (n : ul ≠ pl) {t : Addr} {x : Pt} (ht : H t = some (.tup [iv x.1, iv x.2])) (hx : x.1 < m ∧ x.2 ≤ m) : WInv (upd H pl (.lst (ps ++ [.ref t]))) ul pl m U (ps ++ [.ref t]) (Ps ++ [x]) := by
  have tm := Tm.lst (o := .lst (ps ++ [.ref t])) h.p
  refine ⟨by rw [upd_ne n]; exact h.u, h.ulen, upd_same, paired_snoc ⟨t, rfl, tm _ _ ht⟩ (pts_tm tm h.pp), fun y hy => ?_⟩
  rcases List.mem_append.mp hy with hy | hy
  · exact h.ok y hy
  · rw [List.mem_singleton.mp hy]; exact hx
theorem nn_idx {U : List Nat} {m x : Nat} (hU : U.length = m) (hx : x < m) : atI (U.map iv) (x : Int) = some (iv (nn U x)) := nn_at (by omega)
abbrev N_law_web : List Str := ["_law_box_here", "_law_many", "_law_most", "_law_used", "_law_pairs", "_law_room", "_law_free", "_law_end", "_law_turn_here", "_law_pair", "_law_ends_here", "_law_one"]
theorem sc_law_web : FnScope N_law_web ["_law_box_here", "_law_many", "_law_most"] (defScope s_law_web) := ⟨rfl, rfl, rfl, by decide +kernel, rfl, by decide +kernel, by decide +kernel⟩
def spWeb : Sp := fun vs H Q _ => ∃ (b : Addr) (m mo f : Nat), vs = [.ref b, iv m, iv mo] ∧ BoxOk H b f ∧ f + 400 ≤ 1000000000 ∧ 0 < m ∧ m ≤ 24 ∧ 2 ≤ mo ∧ ∀ v H' W, BK b H H' → BoxOk H' b (f + 400) → Made H' v W m → Q v H'
theorem has_web (B : Bt mg) (T : Top K mg "_law_web" s_law_web) (H_law_take_ : Has P w K mg base "_law_take" ["_law_box_here", "_law_many"] 1 spTake) (H_law_doors_put_ : Has P w K mg base "_law_doors_put" ["_law_box_here", "_law_pairs", "_law_many"] 2 spPut) :
    Has P w K mg base "_law_web" ["_law_box_here", "_law_many", "_law_most"] 3 spWeb := by
  obtain ⟨f_law_take_, fd_law_take_, G_law_take_, m_law_take_, kp_law_take_, b_law_take_⟩ := H_law_take_.ex
  obtain ⟨f_law_doors_put_, fd_law_doors_put_, G_law_doors_put_, m_law_doors_put_, kp_law_doors_put_, b_law_doors_put_⟩ := H_law_doors_put_.ex
  obtain ⟨f, fd, F, hm⟩ := T.ex
  refine ⟨f, fd, ?_, hm, F.kp, F.binds fun _ _ _ _ _ _ us hl => match us, hl with | [_, _, _], _ => rfl⟩
  refine F.ok sc_law_web (fun vs H Q E h => ?_) (fun cdv A outer s H vs Q E hr h => ?_)
  · obtain ⟨b, m, mo, f, rfl, _⟩ := h
    rfl
  · obtain ⟨b, m, mo, f, rfl, hb, hf, hm0, hm, hmo, k⟩ := h
    refine ⟨_, (pss_cons (ps_set (i := 3) sc_law_web.nd rfl (Or.inr rfl) (pe_op op_rep (pe_lst (pa_cons pe_int pa_nil)) (pv 1)))
      (pss_cons (ps_set (i := 4) sc_law_web.nd rfl (Or.inl rfl) (pe_lst pa_nil))
      (pss_cons (ps_for PassesOwn.never rfl (pi_range2 (by rfl) B.range_ (pa_cons pe_int (pa_cons (pv 1) pa_nil))) (pg_name (i := 5) sc_law_web.nd rfl (Or.inl rfl))
      (pss_cons (ps_setLc (i := 6) (own := [("_law_one", 11)]) (g := gName 11) rfl sc_law_web.nd rfl rfl (sw_true rfl rfl rfl (by decide +kernel)) (pi_range1 (by rfl) B.range_ (pa_cons (pv 5) pa_nil)) (blkOk_by (N := N_law_web) (sc := defScope s_law_web) (by decide +kernel)) (fun _ _ _ _ _ => (pg_name (i := 11) sc_law_web.nd rfl (Or.inl rfl))) (fun _ _ _ _ _ => (pts_one (pt_cmpR op_lt (pe_ix (k_ixl K rfl) (pv 3) (pv 11) (fun _ _ => rfl)) (pv 2) (nomark _)))) (fun _ _ _ _ _ => (pv 11)))
      (pss_cons (ps_expr (k_bm K rfl PySem.F.plainAttrs_list PySem.F.slot_list_append PySem.F.type_list_append mt_append (pv 4) (pa_cons (pe_tup (pa_cons (pe_ix (k_ixl K rfl) (pv 6) (pe_call G_law_take_ (hr.mono (by decide)) (by rfl) m_law_take_ kp_law_take_ b_law_take_ .nil pass0 (pa_cons (pv 0) (pa_cons (pe_callB (k_len K rfl) (by rfl) B.len_ PySem.boot_len (pa_cons (pv 6) pa_nil)) pa_nil))) (fun _ _ => rfl)) (pa_cons (pv 5) pa_nil))) pa_nil)))
      (pss_one (ps_for PassesOwn.never rfl (pi_tup (pe_ix (k_ixl K rfl) (pv 4) (pe_un un_neg pe_int) (fun _ _ => rfl))) (pg_name (i := 7) sc_law_web.nd rfl (Or.inl rfl))
      (pss_one (ps_asg (pe_op op_add (pe_ix (k_ixl K rfl) (pv 3) (pv 7) (fun _ _ => rfl)) pe_int) (pg_sub (pv 3) (pv 7) set_list))))))))
      (pss_cons (ps_for PassesOwn.never rfl (pi_range1 (by rfl) B.range_ (pa_cons (pe_call G_law_take_ (hr.mono (by decide)) (by rfl) m_law_take_ kp_law_take_ b_law_take_ .nil pass0 (pa_cons (pv 0) (pa_cons (pe_op op_add (pv 1) pe_int) pa_nil))) pa_nil)) (pg_name (i := 8) sc_law_web.nd rfl (Or.inl rfl))
      (pss_cons (ps_set (i := 9) sc_law_web.nd rfl (Or.inl rfl) (pe_tup (pa_cons (pe_call G_law_take_ (hr.mono (by decide)) (by rfl) m_law_take_ kp_law_take_ b_law_take_ .nil pass0 (pa_cons (pv 0) (pa_cons (pv 1) pa_nil))) (pa_cons (pe_call G_law_take_ (hr.mono (by decide)) (by rfl) m_law_take_ kp_law_take_ b_law_take_ .nil pass0 (pa_cons (pv 0) (pa_cons (pe_op op_add (pv 1) pe_int) pa_nil))) pa_nil))))
      (pss_cons (ps_set (i := 10) sc_law_web.nd rfl (Or.inr rfl) (pe_lc (own := [("_law_end", 7)]) (g := gName 7) rfl sc_law_web.nd (pi_tup (pv 9)) (blkOk_by (N := N_law_web) (sc := defScope s_law_web) (by decide +kernel)) (fun _ _ _ _ _ => (pg_name (i := 7) sc_law_web.nd rfl (Or.inl rfl))) (fun _ _ _ _ _ => (pts_one (pt_cmpR op_lt (pv 7) (pv 1) (nomark _)))) (fun _ _ _ _ _ => (pv 7))))
      (pss_one (ps_if (pt_val (pe_callB (k_all K rfl rfl) (by rfl) B.all_ (by decide +kernel) (pa_cons (pe_lc (own := [("_law_end", 7)]) (g := gName 7) rfl sc_law_web.nd (pi_list (pv 10)) (blkOk_by (N := N_law_web) (sc := defScope s_law_web) (by decide +kernel)) (fun _ _ _ _ _ => (pg_name (i := 7) sc_law_web.nd rfl (Or.inl rfl))) (fun _ _ _ _ _ => pts_nil) (fun _ _ _ _ _ => (pe_cmpR op_le (pe_op op_add (pe_ix (k_ixl K rfl) (pv 3) (pv 7) (fun _ _ => rfl)) (k_bm K rfl PySem.F.plainAttrs_list PySem.F.slot_list_count PySem.F.type_list_count (k_lcount K rfl) (pv 10) (pa_cons (pv 7) pa_nil))) (pv 2) (nomark _)))) pa_nil))) (pss_cons (ps_expr (k_bm K rfl PySem.F.plainAttrs_list PySem.F.slot_list_append PySem.F.type_list_append mt_append (pv 4) (pa_cons (pv 9) pa_nil)))
      (pss_one (ps_for PassesOwn.never rfl (pi_list (pv 10)) (pg_name (i := 7) sc_law_web.nd rfl (Or.inl rfl))
      (pss_one (ps_asg (pe_op op_add (pe_ix (k_ixl K rfl) (pv 3) (pv 7) (fun _ _ => rfl)) pe_int) (pg_sub (pv 3) (pv 7) set_list)))))) pss_nil)))))
      (pss_one (ps_ret (pe_call G_law_doors_put_ (hr.mono (by decide)) (by rfl) m_law_doors_put_ kp_law_doors_put_ b_law_doors_put_ .nil pass0 (pa_cons (pv 0) (pa_cons (pv 4) (pa_cons (pv 1) pa_nil)))))))))), ?_⟩
    refine ⟨sz1000 (by show 1 ≤ 100000; decide), fun z1 hz1 => ⟨_, rfl, z1, _, _, rfl, rfl, upd_same, by omega, by omega, ?_, fun ul hul => ⟨Nat.zero_le _, fun pl hpl => ?_⟩⟩⟩
    · show 1 * (m : Int).toNat ≤ sizeLine
      exact sz1000 (by omega)
    have hrep : (List.replicate (m : Int).toNat [L2.V.int 0]).flatten = (List.replicate m 0).map iv := by
      rw [Int.toNat_natCast, List.map_replicate]
      exact List.flatten_replicate_singleton
    rw [hrep] at hpl ⊢
    have s1 := same_new (o := .lst [L2.V.int 0]) hz1
    have s2 := same_upd (o := .lst ((List.replicate m 0).map iv)) s1 hul
    have s3 := same_upd (o := .lst []) s2 hpl
    have hul0 : H ul = none := s1.free hul
    have hpl0 : H pl = none := s2.free hpl
    have nup : ul ≠ pl := ne_of_none upd_same hpl
    have nub : ul ≠ b := (BK.refl hb.some).ne hul0
    have npb : pl ≠ b := (BK.refl hb.some).ne hpl0
    have k3 : BK b H _ := .of s3 hb.some
    have w3 : WInv (upd (upd (upd H z1 (.lst [L2.V.int 0])) ul (.lst ((List.replicate m 0).map iv))) pl (.lst [])) ul pl m (List.replicate m 0) [] [] :=
      ⟨by rw [upd_ne nup, upd_same], List.length_replicate, upd_same, .nil, fun x hx => nomatch hx⟩
    have hz0 : ∀ x, x < m → nn (List.replicate m 0) x = 0 := fun x hx => nn_of (by rw [List.getElem?_replicate, if_pos hx])
    refine ⟨_, rfl, 1, (m : Int), rfl, ⟨by decide, by decide, by omega, by omega⟩, for_range (lo := 1) (n := _) (fun i σ H' => ∃ (U : List Nat) (ps : List L2.V) (Ps : List Pt) (c5 c6 c7 : Option L2.V), σ = [some (.ref b), some (iv m), some (iv mo), some (.ref ul), some (.ref pl), c5, c6, c7, none, none, none, none] ∧ BK b H H' ∧ BoxOk H' b (f + i) ∧ WInv H' ul pl m U ps Ps ∧ U.sum = 2 * i ∧ (∀ x, i < x → x < m → nn U x = 0) ∧ Ps.length = i)
      ⟨_, _, _, none, none, none, rfl, k3, hb.same s3, w3, by simp, fun x _ hx => hz0 x hx, rfl⟩ ?_ ?_⟩
    · rintro i σ H4 hi ⟨U, ps, Ps, c5, c6, c7, rfl, k4, b4, w4, hsum, hzero, hPl⟩
      have hi : i + 1 < m := by omega
      rw [show (1 : Int) + (i : Int) = ((i + 1 : Nat) : Int) by omega]
      have hUl := w4.ulen
      refine ⟨_, rfl, ((i + 1 : Nat) : Int), rfl, by omega, by omega, fun fl hfl => ?_⟩
      refine lcFlt walk_range (fun j => decide (nn U j < mo)) (fun j => j) hfl (by omega) (fun _ _ => trivial) (fun i Hi x Hx y => y_fn y) ?_ ?_
      · rintro j v Hi Hx Qc Qn hj s5 ⟨rfl, rfl⟩ q1 q2
        have hj : j < i + 1 := by omega
        show gName 11 (L2.V.int (0 + (j : Int))) _ _ _
        rw [show (0 : Int) + (j : Int) = (j : Int) from Int.zero_add _]
        refine ⟨rfl, _, rfl, _, rfl, ul, _, _, _, rfl, rfl, SqL.of (s5 _ _ w4.u), nn_idx hUl (by omega), _, rfl, _, _, rfl, rfl, _, rfl, ?_⟩
        by_cases e : nn U j < mo
        · rw [decide_eq_true (by omega : (nn U j : Int) < (mo : Int))]
          exact iteT ⟨_, rfl, q1 (decide_eq_true e) _ (Same.refl _)⟩
        · rw [decide_eq_false (by omega : ¬ (nn U j : Int) < (mo : Int))]
          exact iteF (q2 (decide_eq_false e) _ (Same.refl _))
      intro H5 s5 hA
      rw [show ((i + 1 : Nat) : Int).toNat = i + 1 by omega] at hA
      obtain ⟨F, hF⟩ : ∃ F, (List.range (i + 1)).filter (fun j => decide (nn U j < mo)) = F := ⟨_, rfl⟩
      rw [hF, List.map_id'] at hA
      have hFm : ∀ x ∈ F, x < i + 1 := fun x hx => by rw [← hF] at hx; exact List.mem_range.mp (List.mem_filter.mp hx).1
      have hFl : F.length ≤ i + 1 := by
        have := List.length_filter_le (fun j => decide (nn U j < mo)) (List.range (i + 1))
        rw [hF, List.length_range] at this
        exact this
      have hF0 : 0 < F.length := by
        by_cases z : 0 < F.length
        · exact z
        · have h0 : F = [] := List.length_eq_zero_iff.mp (by omega)
          have := sum_ge (U := U) (k := i + 1) (by omega) fun j hj => by
            by_cases e : nn U j < mo
            · have hm : j ∈ F := by rw [← hF]; exact List.mem_filter.mpr ⟨List.mem_range.mpr hj, decide_eq_true e⟩
              rw [h0] at hm; cases hm
            · omega
          omega
      have k5 := k4.same s5
      have nfb : fl ≠ b := k4.ne hfl
      have w5 := w4.same s5
      refine ⟨_, rfl, .inl ⟨rfl, _, SqL.of w5.p⟩, _, rfl, _, rfl, _, rfl, fl, _, rfl, .inl (SqL.of hA), b, F.length, f + i, by rw [List.length_map]; rfl, b4.same s5, by omega, hF0, by omega, fun r H6 hr6 k6 b6 => ?_⟩
      have hfl6 := k6.keep _ _ hA nfb
      have hone := hFm _ (List.mem_of_getElem? (nn_get hr6))
      refine ⟨fl, _, _, _, rfl, rfl, SqL.of hfl6, nn_at hr6, _, rfl, sz1000 (by show 2 ≤ 100000; decide), fun t ht => ?_⟩
      have s7 := same_new (o := .tup [iv (nn F r), .int ((i + 1 : Nat) : Int)]) ht
      have w7 := (w5.bk k6 nub npb).same s7
      have k7 := (k5.trans k6).same s7
      have hpsl : ps.length = i := by rw [paired_len w4.pp, hPl]
      refine ⟨pl, ps, .ref t, rfl, rfl, w7.p, sl1000 (by omega), ?_⟩
      have w8 := w7.push nup (t := t) (x := (nn F r, i + 1)) upd_same ⟨by show nn F r < m; omega, by show i + 1 ≤ m; omega⟩
      have k8 := k7.mut (o := .lst (ps ++ [.ref t])) hpl0
      have b8 : BoxOk (upd (upd H6 t (.tup [iv (nn F r), .int ((i + 1 : Nat) : Int)])) pl (.lst (ps ++ [.ref t]))) b (f + i + 1) := (b6.same s7).keep (upd_ne npb.symm)
      have npt : pl ≠ t := ne_of w7.p (show upd H6 t _ t = _ from upd_same) (fun z => nomatch z)
      have ht8 : upd (upd H6 t (.tup [iv (nn F r), .int ((i + 1 : Nat) : Int)])) pl (.lst (ps ++ [.ref t])) t = some (.tup [iv (nn F r), iv (i + 1)]) := by rw [upd_ne npt.symm, upd_same]
      have hat : atI (ps ++ [L2.V.ref t]) (-1) = some (.ref t) := atI_last _ _
      refine ⟨_, rfl, _, rfl, pl, _, _, _, rfl, rfl, SqL.of w8.p, hat, t, rfl, ⟨_, SqT.of ht8⟩, for_tup (K := K) (a := t) (xs := [iv (nn F r), iv (i + 1)]) (fun j σ H' => ∃ (U' : List Nat) (c7 : Option L2.V), σ = [some (.ref b), some (iv m), some (iv mo), some (.ref ul), some (.ref pl), some (iv (i + 1)), some (.ref fl), c7, none, none, none, none] ∧ BK b H H' ∧ BoxOk H' b (f + i + 1) ∧ H' t = some (.tup [iv (nn F r), iv (i + 1)]) ∧ WInv H' ul pl m U' (ps ++ [.ref t]) (Ps ++ [(nn F r, i + 1)]) ∧ U'.sum = 2 * i + j ∧ ∀ x, i + 1 < x → x < m → nn U' x = 0)
        ⟨U, _, rfl, k8, b8, ht8, w8, hsum, fun x h1 h2 => hzero x (by omega) h2⟩ (fun j σ H' _ ⟨_, _, _, _, _, h, _⟩ => SqT.of h) ?_ ?_⟩
      · rintro j v σ H9 hj ⟨U', c7, rfl, k9, b9, ht9, w9, hs9, hz9⟩
        obtain ⟨e, hv, he1⟩ : ∃ e : Nat, v = iv e ∧ e ≤ i + 1 := by
          have hj2 := len_lt hj
          have hj2 : j < 2 := hj2
          have : j = 0 ∨ j = 1 := by omega
          rcases this with rfl | rfl
          · exact ⟨nn F r, (Option.some.inj hj).symm, by omega⟩
          · exact ⟨i + 1, (Option.some.inj hj).symm, Nat.le_refl _⟩
        subst hv
        have hUl9 := w9.ulen
        have hem : e < m := by omega
        refine ⟨_, rfl, _, rfl, ul, _, _, _, rfl, rfl, SqL.of w9.u, nn_idx hUl9 hem, _, _, rfl, rfl, _, rfl, _, rfl, ul, _, _, e, rfl, rfl, w9.u, Evl.ixN_nat (by rw [List.length_map]; omega), ?_⟩
        have e1 : (U'.map iv).set e (.int ((nn U' e : Int) + 1)) = (U'.set e (nn U' e + 1)).map iv := by rw [List.map_set]; rfl
        show ∃ _, _
        refine ⟨U'.set e (nn U' e + 1), _, rfl, k9.mut hul0, b9.keep (upd_ne nub.symm), ?_, ?_, ?_, fun x h1 h2 => ?_⟩
        · rw [upd_ne (ne_of ht9 w9.u (fun z => nomatch z))]; exact ht9
        · show WInv (upd H9 ul (.lst ((U'.map iv).set e (.int ((nn U' e : Int) + 1))))) _ _ _ _ _ _
          rw [e1]
          exact w9.bump nup _ (by rw [List.length_set]; exact hUl9)
        · rw [sum_bump (by omega), hs9]; omega
        · rw [nn_set (by omega), if_neg (by omega)]
          exact hz9 x h1 h2
      · rintro σ H9 ⟨U', c7, rfl, k9, b9, ht9, w9, hs9, hz9⟩
        exact ⟨U', _, _, _, _, _, rfl, k9, b9.le (by omega), w9, by rw [hs9]; show 2 * i + 2 = _; omega, hz9, by rw [List.length_append, hPl]; rfl⟩
    · rintro σ H4 ⟨U, ps, Ps, c5, c6, c7, rfl, k4, b4, w4, hsum, hzero, hPl⟩
      have hPl2 : Ps.length ≤ m := by omega
      have b4 := b4.le (show f + ((m : Int) - 1).toNat ≤ f + m by omega)
      clear hsum hzero hPl
      refine ⟨_, rfl, _, rfl, _, _, rfl, rfl, b, m + 2, f + m, rfl, b4, by omega, by omega, by omega, fun n H5 hn k5 b5 => ?_⟩
      refine ⟨(n : Int), rfl, by omega, by omega, for_range (lo := 0) (n := _) (fun i σ H' => ∃ (U : List Nat) (ps : List L2.V) (Ps : List Pt) (c5 c6 c7 c8 c9 c10 : Option L2.V), σ = [some (.ref b), some (iv m), some (iv mo), some (.ref ul), some (.ref pl), c5, c6, c7, c8, c9, c10, none] ∧ BK b H H' ∧ BoxOk H' b (f + m + 1 + 2 * i) ∧ WInv H' ul pl m U ps Ps ∧ Ps.length ≤ m + i)
        ⟨U, ps, Ps, _, _, _, none, none, none, rfl, k4.trans k5, b5, w4.bk k5 nub npb, hPl2⟩ ?_ ?_⟩
      · rintro i σ H6 hi ⟨U, ps, Ps, c5, c6, c7, c8, c9, c10, rfl, k6, b6, w6, hPl6⟩
        have hi : i < n := by omega
        refine ⟨_, rfl, _, rfl, b, m, f + m + 1 + 2 * i, rfl, b6, by omega, hm0, by omega, fun x H7 hx k7 b7 => ?_⟩
        refine ⟨_, rfl, _, rfl, _, _, rfl, rfl, b, m + 1, f + m + 1 + 2 * i + 1, rfl, b7, by omega, by omega, by omega, fun y H8 hy k8 b8 => ⟨sz1000 (by show 2 ≤ 100000; decide), fun t ht => ?_⟩⟩
        have s9 := same_new (o := .tup [iv x, iv y]) ht
        have w9 := ((w6.bk k7 nub npb).bk k8 nub npb).same s9
        have k9 := ((k6.trans k7).trans k8).same s9
        have b9 := b8.same s9
        have ht9 : upd H8 t (.tup [iv x, iv y]) t = some (.tup ([x, y].map iv)) := upd_same
        generalize upd H8 t (.tup [iv x, iv y]) = H9 at *
        refine ⟨_, rfl, t, rfl, ⟨_, SqT.of ht9⟩, fun el hel => ?_⟩
        refine lcFlt walk_tup (fun j => decide (nn [x, y] j < m)) (fun j => nn [x, y] j) hel (by show 2 ≤ 90000; decide) (fun H' s => SqT.of (s _ _ ht9)) (fun i Hi x Hx y => y_at y) ?_ ?_
        · rintro j v Hi Hx Qc Qn hj s10 ⟨rfl, hv⟩ q1 q2
          obtain ⟨u, hu, rfl⟩ := map_get hv
          have en := nn_of hu
          rw [en] at q1 q2
          refine ⟨rfl, _, rfl, _, rfl, _, _, rfl, rfl, _, rfl, ?_⟩
          by_cases e : u < m
          · rw [decide_eq_true (by omega : (u : Int) < (m : Int))]
            exact iteT ⟨_, rfl, q1 (decide_eq_true e) _ (Same.refl _)⟩
          · rw [decide_eq_false (by omega : ¬ (u : Int) < (m : Int))]
            exact iteF (q2 (decide_eq_false e) _ (Same.refl _))
        intro H10 s10 hE
        obtain ⟨E, hE2⟩ : ∃ E, ((List.range ([x, y].map iv).length).filter (fun j => decide (nn [x, y] j < m))).map (fun j => nn [x, y] j) = E := ⟨_, rfl⟩
        rw [hE2] at hE
        have hEm : ∀ u ∈ E, u < m := fun u hu => by
          rw [← hE2] at hu
          obtain ⟨j, hj, rfl⟩ := List.mem_map.mp hu
          exact of_decide_eq_true (List.mem_filter.mp hj).2
        have hEl : E.length ≤ 2 := by
          rw [← hE2, List.length_map]
          have := List.length_filter_le (fun j => decide (nn [x, y] j < m)) (List.range ([x, y].map iv).length)
          rw [List.length_range] at this
          exact this
        have hel0 : H el = none := k9.free hel
        have w10 := w9.same s10
        have k10 := k9.same s10
        have b10 := b9.same s10
        have ht10 := s10 _ _ ht9
        have nue : ul ≠ el := ne_of_none w9.u hel
        have npe : pl ≠ el := ne_of_none w9.p hel
        refine ⟨_, rfl, el, rfl, ⟨_, SqL.of hE⟩, fun D hD => lcP walk_list (fun _ _ z => ∃ c, z = .bl c) hD (by rw [List.length_map]; omega) (fun H' s => SqL.of (s _ _ hE)) (fun j z H' H'' _ r _ => r) (fun i Hi x Hx y => y_at y) ?_ ?_⟩
        · rintro j v Hi Hx Qc hj s11 _ ⟨rfl, hv⟩ q2
          obtain ⟨u, hu, rfl⟩ := map_get hv
          have hum := hEm u (List.mem_of_getElem? hu)
          refine ⟨rfl, _, rfl, _, rfl, ul, _, _, _, rfl, rfl, SqL.of (s11 _ _ w10.u), nn_idx w10.ulen hum, _, rfl, .inl ⟨rfl, _, SqL.of (s11 _ _ hE)⟩, _, rfl, el, E.map (fun n : Nat => (n : Int)), (u : Int), rfl, rfl, SqL.of (by rw [List.map_map]; exact s11 _ _ hE), _, _, rfl, rfl, _, rfl, _, _, rfl, rfl, q2 _ _ (Same.refl _) ⟨_, rfl⟩⟩
        intro H11 acc s11 hA hlen hval
        obtain ⟨bs, rfl⟩ := bools_of hval
        have w11 := w10.same s11
        have k11 := k10.same s11
        have b11 := b10.same s11
        have ht11 := s11 _ _ ht10
        have hE11 := s11 _ _ hE
        refine ⟨D, bs, rfl, SqL.of hA, _, rfl, ite2 (fun _ => ?_) (fun _ => ?_)⟩
        · have hpsl := paired_len w11.pp
          refine ⟨_, rfl, .inl ⟨rfl, _, SqL.of w11.p⟩, _, rfl, pl, ps, .ref t, rfl, rfl, w11.p, sl1000 (by omega), ?_⟩
          have w12 := w11.push nup (t := t) (x := (x, y)) ht11 ⟨hx, by show y ≤ m; omega⟩
          have hE12 : upd H11 pl (.lst (ps ++ [.ref t])) el = some (.lst (E.map iv)) := by rw [upd_ne npe.symm]; exact hE11
          refine ⟨_, rfl, el, rfl, ⟨_, SqL.of hE12⟩, for_list (K := K) (a := el) (xs := E.map iv) (fun j σ H' => ∃ (U' : List Nat) (c7 : Option L2.V), σ = [some (.ref b), some (iv m), some (iv mo), some (.ref ul), some (.ref pl), c5, c6, c7, some (iv i), some (.ref t), some (.ref el), none] ∧ BK b H H' ∧ BoxOk H' b (f + m + 1 + 2 * i + 1 + 1) ∧ H' el = some (.lst (E.map iv)) ∧ WInv H' ul pl m U' (ps ++ [.ref t]) (Ps ++ [(x, y)]))
            ⟨U, _, by rw [Int.zero_add]; rfl, k11.mut hpl0, b11.keep (upd_ne npb.symm), hE12, w12⟩ (fun j σ H' _ ⟨_, _, _, _, _, h, _⟩ => SqL.of h) ?_ ?_⟩
          · rintro j v σ H13 hj ⟨U', c7, rfl, k13, b13, hE13, w13⟩
            obtain ⟨u, hu, rfl⟩ := map_get hj
            have hum := hEm u (List.mem_of_getElem? hu)
            have hUl9 := w13.ulen
            refine ⟨_, rfl, _, rfl, ul, _, _, _, rfl, rfl, SqL.of w13.u, nn_idx hUl9 hum, _, _, rfl, rfl, _, rfl, _, rfl, ul, _, _, u, rfl, rfl, w13.u, Evl.ixN_nat (by rw [List.length_map]; omega), ?_⟩
            have e1 : (U'.map iv).set u (.int ((nn U' u : Int) + 1)) = (U'.set u (nn U' u + 1)).map iv := by rw [List.map_set]; rfl
            refine ⟨U'.set u (nn U' u + 1), _, rfl, k13.mut hul0, b13.keep (upd_ne nub.symm), ?_, ?_⟩
            · rw [upd_ne nue.symm]; exact hE13
            · show WInv (upd H13 ul (.lst ((U'.map iv).set u (.int ((nn U' u : Int) + 1))))) _ _ _ _ _ _
              rw [e1]
              exact w13.bump nup _ (by rw [List.length_set]; exact hUl9)
          · rintro σ H13 ⟨U', c7, rfl, k13, b13, hE13, w13⟩
            exact ⟨U', _, _, _, _, _, _, _, _, rfl, k13, b13.le (by omega), w13, by rw [List.length_append]; show Ps.length + 1 ≤ _; omega⟩
        · exact ⟨U, ps, Ps, _, _, _, _, _, _, rfl, k11, b11.le (by omega), w11, by omega⟩
      · rintro σ H6 ⟨U, ps, Ps, c5, c6, c7, c8, c9, c10, rfl, k6, b6, w6, hPl6⟩
        refine ⟨_, rfl, _, rfl, _, rfl, b, pl, m, f + m + 1 + 2 * n, ps, Ps, rfl, b6.le (by omega), by omega, w6.p, npb, w6.pp, w6.ok, hm0, hm, by omega, fun v H' W k7 b7 hW => k v H' W (k6.trans k7) (b7.le (by omega)) hW⟩
end
end K18
namespace K18
open PySem PySem.Spec PyProof.Rows L2
section
variable {P : Program} {w : World} {K : PySem.W.Frag} {mg : Str → Option Value} {base : Heap}
/-! _law_ends, _law_reached, _law_sheeted -/
/-- a tie's two ends as a value -/
def EndV (H : Hp) (v : V) (e : Pt × Pt) : Prop := ∃ p q1 q2, v = .ref p ∧ H p = some (.tup [.ref q1, .ref q2]) ∧ H q1 = some (.tup [iv e.1.1, iv e.1.2]) ∧ H q2 = some (.tup [iv e.2.1, iv e.2.2])
theorem EndV.tm {H H' : Hp} {v : V} {e : Pt × Pt} (h : EndV H v e) (t : Tm H H') : EndV H' v e := let ⟨p, q1, q2, a, b, c, d⟩ := h; ⟨p, q1, q2, a, t _ _ b, t _ _ c, t _ _ d⟩
/-- a web of middle size -/
structure Mid (W : Web) : Prop where
  rooms : W.length ≤ 24
  doors : ∀ r, deg W r ≤ 100
theorem Mid.small {W : Web} (h : Mid W) : Small W := ⟨by have := h.rooms; omega, fun r => by have := h.doors r; omega⟩
theorem lex2 (a b c d : Nat) : Ob.lexAt (fun j => decide ([(a : Int), (b : Int)].getD j 0 = [(c : Int), (d : Int)].getD j 0)) (fun j => decide ([(a : Int), (b : Int)].getD j 0 ≤ [(c : Int), (d : Int)].getD j 0)) (decide ([(a : Int), (b : Int)].length ≤ [(c : Int), (d : Int)].length)) 0 (min [(a : Int), (b : Int)].length [(c : Int), (d : Int)].length) = leP (a, b) (c, d) := by
  show (if decide ((a : Int) = c) = true then (if decide ((b : Int) = d) = true then true else decide ((b : Int) ≤ d)) else decide ((a : Int) ≤ c)) = decide (a < c ∨ (a = c ∧ b ≤ d))
  rw [Bool.eq_iff_iff]
  by_cases h1 : (a : Int) = c
  · rw [decide_eq_true h1, if_pos rfl]
    by_cases h2 : (b : Int) = d
    · rw [decide_eq_true h2, if_pos rfl, decide_eq_true_eq]
      constructor
      · intro _; omega
      · intro _; rfl
    · rw [decide_eq_false h2, if_neg (by decide), decide_eq_true_eq, decide_eq_true_eq]
      omega
  · rw [decide_eq_false h1, if_neg (by decide), decide_eq_true_eq, decide_eq_true_eq]
    omega
theorem endsTo_next (W : Web) (i j : Nat) : endsTo W i (j + 1) = if tieAt W (i, j) = true then endsTo W i j ++ [withEnd W (i, j)] else endsTo W i j := by
  unfold endsTo
  rw [allTo_next, List.filter_append, List.map_append]
  by_cases h : tieAt W (i, j) = true
  · rw [if_pos h]; simp [h]
  · rw [if_neg h]; simp [h]
theorem endsTo_len {W : Web} (h : Mid W) {i j : Nat} (hi : i < W.length) (hj : j ≤ 100) : (endsTo W i j).length ≤ 5000 := by
  unfold endsTo allTo
  rw [List.length_map]
  refine Nat.le_trans (List.length_filter_le _ _) ?_
  rw [List.length_append, List.length_map, List.length_range]
  have := allAt_len W 100 h.doors i
  have := h.rooms
  omega
abbrev N_law_ends : List Str := ["_law_web_here", "_law_found", "_law_room", "_law_door"]
theorem sc_law_ends : FnScope N_law_ends ["_law_web_here"] (defScope s_law_ends) := ⟨rfl, rfl, rfl, by decide +kernel, rfl, by decide +kernel, by decide +kernel⟩
def spEnds : Sp := fun vs H Q _ => ∃ (p : Addr) (W : Web) (rm : Nat → Addr) (en : Nat → Nat → Addr), vs = [.ref p] ∧ WebH H p W rm en ∧ Mid W ∧ ∀ D H' ys, Same H H' → H D = none → H' D = some (.lst ys) → Paired (EndV H') ys (endsOf W) → Q (.ref D) H'
theorem has_ends (B : Bt mg) (T : Top K mg "_law_ends" s_law_ends) : Has P w K mg base "_law_ends" ["_law_web_here"] 1 spEnds := by
  obtain ⟨f, fd, F, hm⟩ := T.ex
  refine ⟨f, fd, ?_, hm, F.kp, F.binds fun _ _ _ _ _ _ us hl => match us, hl with | [_], _ => rfl⟩
  refine F.ok sc_law_ends (fun vs H Q E h => ?_) (fun cdv A outer s H vs Q E hr h => ?_)
  · obtain ⟨p, W, rm, en, rfl, _⟩ := h
    rfl
  · obtain ⟨p, W, rm, en, rfl, hW, mW, k⟩ := h
    refine ⟨_, (pss_cons (ps_set (i := 1) sc_law_ends.nd rfl (Or.inl rfl) (pe_lst pa_nil))
      (pss_cons (ps_for PassesOwn.never rfl (pi_range1 (by rfl) B.range_ (pa_cons (pe_callB (k_len K rfl) (by rfl) B.len_ PySem.boot_len (pa_cons (pv 0) pa_nil)) pa_nil)) (pg_name (i := 2) sc_law_ends.nd rfl (Or.inl rfl))
      (pss_one (ps_for PassesOwn.never rfl (pi_range1 (by rfl) B.range_ (pa_cons (pe_callB (k_len K rfl) (by rfl) B.len_ PySem.boot_len (pa_cons (pe_ix (k_ixt K rfl) (pv 0) (pv 2) (fun _ _ => rfl)) pa_nil)) pa_nil)) (pg_name (i := 3) sc_law_ends.nd rfl (Or.inl rfl))
      (pss_one (ps_if (pt_cmpR (k_leT K rfl hr.units0) (pe_tup (pa_cons (pv 2) (pa_cons (pv 3) pa_nil))) (pe_ix (k_ixt K rfl) (pe_ix (k_ixt K rfl) (pv 0) (pv 2) (fun _ _ => rfl)) (pv 3) (fun _ _ => rfl)) (nomark _)) (pss_one (ps_expr (k_bm K rfl PySem.F.plainAttrs_list PySem.F.slot_list_append PySem.F.type_list_append mt_append (pv 1) (pa_cons (pe_tup (pa_cons (pe_tup (pa_cons (pv 2) (pa_cons (pv 3) pa_nil))) (pa_cons (pe_ix (k_ixt K rfl) (pe_ix (k_ixt K rfl) (pv 0) (pv 2) (fun _ _ => rfl)) (pv 3) (fun _ _ => rfl)) pa_nil))) pa_nil)))) pss_nil)))))
      (pss_one (ps_ret (pv 1))))), ?_⟩
    have hrooms := mW.rooms
    refine ⟨Nat.zero_le _, fun fl hfl => ?_⟩
    have s0 := same_new (o := .lst []) hfl
    refine ⟨_, rfl, p, _, rfl, .inr (SqT.of (s0 _ _ hW.web)), _, rfl, by rw [roomsV_len]; omega, by rw [roomsV_len]; omega,
      for_range (lo := 0) (n := _) (fun i σ H' => ∃ (ys : List L2.V) (c2 c3 : Option L2.V), σ = [some (.ref p), some (.ref fl), c2, c3] ∧ Same H H' ∧ H' fl = some (.lst ys) ∧ Paired (EndV H') ys (endsTo W i 0))
      ⟨[], none, none, rfl, s0, upd_same, .nil⟩ ?_ ?_⟩
    · rintro i σ H' hi ⟨ys, c2, c3, rfl, s1, hf, hys⟩
      have hi : i < W.length := by rw [roomsV_len] at hi; omega
      rw [show (0 : Int) + (i : Int) = (i : Int) from Int.zero_add _]
      have hW1 := hW.tm (Tm.of s1)
      have hdi := mW.doors i
      refine ⟨_, rfl, _, rfl, p, _, _, _, rfl, rfl, SqT.of hW1.web, roomsV_at hi, rm i, _, rfl, .inr (SqT.of (hW1.room i hi)), _, rfl, by rw [endsV_len]; omega, by rw [endsV_len]; omega,
        for_range (lo := 0) (n := _) (fun j σ H' => ∃ (ys : List L2.V) (c3 : Option L2.V), σ = [some (.ref p), some (.ref fl), some (iv i), c3] ∧ Same H H' ∧ H' fl = some (.lst ys) ∧ Paired (EndV H') ys (endsTo W i j))
        ⟨ys, _, rfl, s1, hf, hys⟩ ?_ ?_⟩
      · rintro j σ H2 hj ⟨ys, c3, rfl, s2, hf, hys⟩
        have hj : j < deg W i := by rw [endsV_len] at hj; omega
        rw [show (0 : Int) + (j : Int) = (j : Int) from Int.zero_add _]
        have hyl : ys.length ≤ 5000 := by rw [paired_len hys]; exact endsTo_len mW hi (by omega)
        refine ⟨_, rfl, _, rfl, sz1000 (by show 2 ≤ 100000; decide), fun t ht => ?_⟩
        have s3 := same_upd (o := .tup [iv i, iv j]) s2 ht
        have hW3 := hW.tm (Tm.of s3)
        refine ⟨_, rfl, _, rfl, p, _, _, _, rfl, rfl, SqT.of hW3.web, roomsV_at hi, _, rfl, rm i, _, _, _, rfl, rfl, SqT.of (hW3.room i hi), endsV_at hj, t, en i j, [(i : Int), (j : Int)], [((nxt W i j).1 : Int), ((nxt W i j).2 : Int)], rfl, rfl, SqT.of upd_same, SqT.of (hW3.ends i j hj), _, rfl, ?_⟩
        rw [lex2]
        have et : leP (i, j) ((nxt W i j).1, (nxt W i j).2) = tieAt W (i, j) := rfl
        rw [et]
        have tm3 : Tm H2 (upd H2 t (.tup [iv i, iv j])) := Tm.new ht
        have hf3 : upd H2 t (.tup [iv i, iv j]) fl = some (.lst ys) := same_new ht _ _ hf
        refine ite2 (fun e => ?_) (fun e => ?_)
        · refine ⟨_, rfl, .inl ⟨rfl, _, SqL.of hf3⟩, _, rfl, _, rfl, sz1000 (by show 2 ≤ 100000; decide), fun t2 ht2 => ?_⟩
          have s4 := same_upd (o := .tup [iv i, iv j]) s3 ht2
          have hW4 := hW.tm (Tm.of s4)
          refine ⟨_, rfl, _, rfl, p, _, _, _, rfl, rfl, SqT.of hW4.web, roomsV_at hi, _, rfl, rm i, _, _, _, rfl, rfl, SqT.of (hW4.room i hi), endsV_at hj, sz1000 (by show 2 ≤ 100000; decide), fun t3 ht3 => ?_⟩
          have s5 := same_upd (o := .tup [.ref t2, .ref (en i j)]) s4 ht3
          have hf5 := same_new (o := .tup [.ref t2, .ref (en i j)]) ht3 _ _ (same_new (o := .tup [iv i, iv j]) ht2 _ _ hf3)
          refine ⟨fl, ys, .ref t3, rfl, rfl, hf5, sl1000 (by omega), ?_⟩
          have n23 : t2 ≠ t3 := ne_of_none upd_same ht3
          have tm6 := Tm.lst (o := .lst (ys ++ [.ref t3])) hf5
          refine ⟨ys ++ [.ref t3], _, rfl, same_mut s5 hfl, upd_same, ?_⟩
          rw [endsTo_next, if_pos e]
          refine paired_snoc ⟨t3, t2, en i j, rfl, tm6 _ _ upd_same, tm6 _ _ (by rw [upd_ne n23, upd_same]; rfl), tm6 _ _ ((Tm.new ht3) _ _ (hW4.ends i j hj))⟩ (Paired.mapP hys fun _ _ z => z.tm (((tm3.trans (Tm.new ht2)).trans (Tm.new ht3)).trans tm6))
        · refine ⟨ys, _, rfl, s3, hf3, ?_⟩
          rw [endsTo_next, if_neg e]
          exact Paired.mapP hys fun _ _ z => z.tm tm3
      · rintro σ H2 ⟨ys, c3, rfl, s2, hf, hys⟩
        rw [endsV_len, Int.toNat_natCast] at hys
        refine ⟨ys, _, _, rfl, s2, hf, ?_⟩
        have e : endsTo W (i + 1) 0 = endsTo W i (deg W i) := by unfold endsTo; rw [allTo_start, allTo_row]
        rw [e]; exact hys
    · rintro σ H' ⟨ys, c2, c3, rfl, s1, hf, hys⟩
      rw [roomsV_len, Int.toNat_natCast] at hys
      have e : endsTo W W.length 0 = endsOf W := by unfold endsTo endsOf; rw [allTo_start]
      rw [e] at hys
      exact ⟨_, rfl, k fl H' ys s1 hfl hf hys⟩
theorem flat_ivs (L : List Nat) : (L.map iv).all flatV = true := by
  rw [List.all_eq_true]
  intro v hv
  obtain ⟨n, _, rfl⟩ := List.mem_map.mp hv
  rfl
theorem inV_ivs (x : Nat) : ∀ L : List Nat, inV (iv x) (L.map iv) = decide (x ∈ L)
  | [] => by simp [inV]
  | y :: L => by
    have h := inV_ivs x L
    unfold inV at h ⊢
    rw [List.map_cons, List.any_cons, h]
    have e : eqV (iv y) (iv x) = decide ((y : Int) = (x : Int)) := rfl
    rw [e, Bool.eq_iff_iff, Bool.or_eq_true, decide_eq_true_eq, decide_eq_true_eq, decide_eq_true_eq, List.mem_cons]
    constructor
    · rintro (h | h)
      · exact .inl (by omega)
      · exact .inr h
    · rintro (h | h)
      · exact .inl (by omega)
      · exact .inr h
theorem nodup_lt {L : List Nat} {n : Nat} (h : L.Nodup) (g : ∀ x ∈ L, x < n) : L.length ≤ n := by
  have := nodup_len (m := List.range n) h fun x hx => List.mem_range.mpr (g x hx)
  rw [List.length_range] at this
  exact this
abbrev N_law_reached : List Str := ["_law_web_here", "_law_room", "_law_found", "_law_at", "_law_other", "_law_door"]
theorem sc_law_reached : FnScope N_law_reached ["_law_web_here", "_law_room"] (defScope s_law_reached) := ⟨rfl, rfl, rfl, by decide +kernel, rfl, by decide +kernel, by decide +kernel⟩
def spReached : Sp := fun vs H Q _ => ∃ (p : Addr) (W : Web) (rm : Nat → Addr) (en : Nat → Nat → Addr) (r : Nat), vs = [.ref p, iv r] ∧ WebH H p W rm en ∧ Closed W ∧ Mid W ∧ r < W.length ∧ ∀ D H' (L : List Nat), Same H H' → H' D = some (.lst (L.map iv)) → Q (.ref D) H'
theorem has_reached (B : Bt mg) (T : Top K mg "_law_reached" s_law_reached) : Has P w K mg base "_law_reached" ["_law_web_here", "_law_room"] 1 spReached := by
  obtain ⟨f, fd, F, hm⟩ := T.ex
  refine ⟨f, fd, ?_, hm, F.kp, F.binds fun _ _ _ _ _ _ us hl => match us, hl with | [_, _], _ => rfl⟩
  refine F.ok sc_law_reached (fun vs H Q E h => ?_) (fun cdv A outer s H vs Q E hr h => ?_)
  · obtain ⟨p, W, rm, en, r, rfl, _⟩ := h
    rfl
  · obtain ⟨p, W, rm, en, r, rfl, hW, cW, mW, hr1, k⟩ := h
    refine ⟨_, (pss_cons (ps_set (i := 2) sc_law_reached.nd rfl (Or.inl rfl) (pe_lst (pa_cons (pv 1) pa_nil)))
      (pss_cons (ps_set (i := 3) sc_law_reached.nd rfl (Or.inl rfl) pe_int)
      (pss_cons (ps_while PassesOwn.never (pt_cmpR op_lt (pv 3) (pe_callB (k_len K rfl) (by rfl) B.len_ PySem.boot_len (pa_cons (pv 2) pa_nil)) (nomark _))
      (pss_cons (ps_for PassesOwn.never rfl (pi_tup (pe_ix (k_ixt K rfl) (pv 0) (pe_ix (k_ixl K rfl) (pv 2) (pv 3) (fun _ _ => rfl)) (fun _ _ => rfl))) (pg_tup rfl (pgs_cons (pg_name (i := 4) sc_law_reached.nd rfl (Or.inl rfl)) (pgs_cons (pg_name (i := 5) sc_law_reached.nd rfl (Or.inl rfl)) pgs_nil)))
      (pss_one (ps_if (pt_cmpR (k_notin K rfl) (pv 4) (pv 2) (by rfl)) (pss_one (ps_expr (k_bm K rfl PySem.F.plainAttrs_list PySem.F.slot_list_append PySem.F.type_list_append mt_append (pv 2) (pa_cons (pv 4) pa_nil)))) pss_nil)))
      (pss_one (ps_set (i := 3) sc_law_reached.nd rfl (Or.inl rfl) (pe_op op_add (pv 3) pe_int)))))
      (pss_one (ps_ret (pv 2)))))), ?_⟩
    have hrooms := mW.rooms
    refine ⟨_, rfl, sz1000 (by show 1 ≤ 100000; decide), fun fl hfl => ?_⟩
    refine ⟨fun m σ H' => ∃ (L : List Nat) (a : Nat) (c4 c5 : Option L2.V), σ = [some (.ref p), some (iv r), some (.ref fl), some (iv a), c4, c5] ∧ Same H H' ∧ H' fl = some (.lst (L.map iv)) ∧ L.Nodup ∧ (∀ x ∈ L, x < W.length) ∧ m + a = W.length,
      ⟨W.length, [r], 0, none, none, rfl, same_new hfl, upd_same, by simp, fun x hx => by rw [List.mem_singleton.mp hx]; exact hr1, rfl⟩, ?_⟩
    rintro m σ H1 ⟨L, a, c4, c5, rfl, s1, hf, hnd, hlt, hm⟩
    refine ⟨_, rfl, _, rfl, fl, _, rfl, .inl (SqL.of hf), _, _, rfl, rfl, _, rfl, ite2 (fun e => ?_) (fun e => ?_)⟩
    · have ha : a < L.length := by
        have := of_decide_eq_true e
        rw [List.length_map] at this
        omega
      have hLW := nodup_lt hnd hlt
      have hx := hlt _ (List.mem_of_getElem? (nn_get ha))
      have hW1 := hW.tm (Tm.of s1)
      have hdx := mW.doors (nn L a)
      refine ⟨fun σ' H' => ∃ (L : List Nat) (c4 c5 : Option L2.V), σ' = [some (.ref p), some (iv r), some (.ref fl), some (iv (a + 1)), c4, c5] ∧ Same H H' ∧ H' fl = some (.lst (L.map iv)) ∧ L.Nodup ∧ (∀ x ∈ L, x < W.length), fun σ' H' ⟨L', c4, c5, e1, e2, e3, e4, e5⟩ => ⟨W.length - (a + 1), by omega, L', a + 1, c4, c5, e1, e2, e3, e4, e5, by omega⟩, ?_⟩
      refine ⟨_, rfl, _, rfl, _, rfl, fl, _, _, _, rfl, rfl, SqL.of hf, nn_at ha, p, _, _, _, rfl, rfl, SqT.of hW1.web, roomsV_at hx, rm (nn L a), rfl, ⟨_, SqT.of (hW1.room _ hx)⟩, for_tup (K := K) (a := rm (nn L a)) (xs := endsV W en (nn L a)) (fun i σ H' => ∃ (L : List Nat) (c4 c5 : Option L2.V), σ = [some (.ref p), some (iv r), some (.ref fl), some (iv a), c4, c5] ∧ Same H H' ∧ H' fl = some (.lst (L.map iv)) ∧ L.Nodup ∧ (∀ x ∈ L, x < W.length))
        ⟨L, _, _, rfl, s1, hf, hnd, hlt⟩ (fun i σ H' _ ⟨_, _, _, _, s, _⟩ => SqT.of (s _ _ (hW.room _ hx))) ?_ ?_⟩
      · rintro d v σ H2 hd ⟨L2', c4, c5, rfl, s2, hf2, hnd2, hlt2⟩
        have hdl : d < deg W (nn L a) := by have := len_lt hd; rw [endsV_len] at this; exact this
        have ev : v = .ref (en (nn L a) d) := Option.some.inj (hd.symm.trans (endsV_get hdl))
        subst ev
        have hy := cW.lt _ _ hdl
        have hW2 := hW.tm (Tm.of s2)
        have hL2 := nodup_lt hnd2 hlt2
        refine ⟨en (nn L a) d, _, rfl, SqT.of (hW2.ends _ _ hdl), rfl, _, _, rfl, _, _, rfl, rfl, ?_⟩
        refine ⟨_, rfl, _, rfl, fl, _, rfl, .inl (SqL.of hf2), rfl, flat_ivs _, _, rfl, ?_⟩
        show if (!inV (iv (nxt W (nn L a) d).1) (L2'.map iv)) = true then _ else _
        rw [inV_ivs]
        refine ite2 (fun e => ?_) (fun e => ?_)
        · have hnm : ¬ (nxt W (nn L a) d).1 ∈ L2' := fun z => by rw [decide_eq_true z] at e; cases e
          refine ⟨_, rfl, .inl ⟨rfl, _, SqL.of hf2⟩, _, rfl, fl, _, _, rfl, rfl, hf2, sl1000 (by rw [List.length_map]; omega), ?_⟩
          refine ⟨L2' ++ [(nxt W (nn L a) d).1], _, _, rfl, same_mut s2 hfl, by rw [upd_same, List.map_append]; rfl, ?_, fun x hx => ?_⟩
          · refine List.nodup_append.mpr ⟨hnd2, by simp, fun u hu v hv e => ?_⟩
            rw [List.mem_singleton.mp hv] at e
            subst e
            exact hnm hu
          · rcases List.mem_append.mp hx with hx | hx
            · exact hlt2 x hx
            · rw [List.mem_singleton.mp hx]; exact hy
        · exact ⟨L2', _, _, rfl, s2, hf2, hnd2, hlt2⟩
      · rintro σ H2 ⟨L2', c4, c5, rfl, s2, hf2, hnd2, hlt2⟩
        exact ⟨_, rfl, _, _, rfl, rfl, L2', _, _, rfl, s2, hf2, hnd2, hlt2⟩
    · exact ⟨_, rfl, k fl H1 L s1 hf⟩
end
end K18
namespace K18
open PySem PySem.Spec PyProof.Rows L2
section
variable {P : Program} {w : World} {K : PySem.W.Frag} {mg : Str → Option Value} {base : Heap}
/-! _law_sheeted, _law_covered -/
structure SheetH (H : Hp) (ml : Addr) (as : List Addr) (W : Web) (m : Nat) (Tu : List (List Nat)) : Prop where
  lst : H ml = some (.lst (as.map .ref))
  len : as.length = m * W.length
  row : ∀ (x : Nat) (a : Addr), as[x]? = some a → ∃ cs : List V, H a = some (.lst cs) ∧ cs.length = deg W (x % W.length) ∧ ∀ (d : Nat) (v : V), cs[d]? = some v → v = .non ∨ PtV H v (sheetF W Tu x d)
def CellH (H : Hp) (as : List Addr) (W : Web) (Tu : List (List Nat)) (x d : Nat) : Prop := ∃ (a : Addr) (cs : List V) (v : V), as[x]? = some a ∧ H a = some (.lst cs) ∧ cs[d]? = some v ∧ PtV H v (sheetF W Tu x d)
section
variable {H H' : Hp} {ml : Addr} {as : List Addr} {W : Web} {m : Nat} {Tu : List (List Nat)}
theorem SheetH.same (h : SheetH H ml as W m Tu) (s : Same H H') : SheetH H' ml as W m Tu :=
  ⟨s _ _ h.lst, h.len, fun x a e => let ⟨cs, h1, h2, h3⟩ := h.row x a e; ⟨cs, s _ _ h1, h2, fun d v hv => (h3 d v hv).imp id fun z => z.tm (Tm.of s)⟩⟩
theorem CellH.same {x d : Nat} (h : CellH H as W Tu x d) (s : Same H H') : CellH H' as W Tu x d := let ⟨a, cs, v, h1, h2, h3, h4⟩ := h; ⟨a, cs, v, h1, s _ _ h2, h3, h4.tm (Tm.of s)⟩
theorem SheetH.put (h : SheetH H ml as W m Tu) (nd : as.Nodup) (hm : ∀ a ∈ as, a ≠ ml) {x d : Nat} {a t : Addr} {cs : List V} (ha : as[x]? = some a) (hcs : H a = some (.lst cs)) (hd : d < cs.length) (ht : H t = some (.tup [iv (sheetF W Tu x d).1, iv (sheetF W Tu x d).2])) :
    SheetH (upd H a (.lst (cs.set d (.ref t)))) ml as W m Tu ∧ CellH (upd H a (.lst (cs.set d (.ref t)))) as W Tu x d ∧ ∀ x' d', CellH H as W Tu x' d' → CellH (upd H a (.lst (cs.set d (.ref t)))) as W Tu x' d' := by
  have tm : Tm H (upd H a (.lst (cs.set d (.ref t)))) := Tm.lst hcs
  have uniq : ∀ x', as[x']? = some a → x' = x := fun x' e => (List.getElem?_inj (len_lt e) nd).mp (e.trans ha.symm)
  refine ⟨⟨by rw [upd_ne (hm a (List.mem_of_getElem? ha)).symm]; exact h.lst, h.len, fun x' a' e => ?_⟩, ⟨a, _, .ref t, ha, upd_same, by rw [List.getElem?_set, if_pos rfl, if_pos hd], t, rfl, tm _ _ ht⟩, fun x' d' hc => ?_⟩
  · obtain ⟨cs', h1, h2, h3⟩ := h.row x' a' e
    by_cases ea : a' = a
    · subst ea
      have ex := uniq x' e
      subst ex
      rw [hcs] at h1
      cases h1
      refine ⟨_, upd_same, by rw [List.length_set]; exact h2, fun d' v hv => ?_⟩
      rw [List.getElem?_set] at hv
      by_cases ed : d = d'
      · subst ed
        rw [if_pos rfl, if_pos hd] at hv
        cases hv
        exact .inr ⟨t, rfl, tm _ _ ht⟩
      · rw [if_neg ed] at hv
        exact (h3 d' v hv).imp id fun z => z.tm tm
    · exact ⟨cs', by rw [upd_ne ea]; exact h1, h2, fun d' v hv => (h3 d' v hv).imp id fun z => z.tm tm⟩
  · obtain ⟨a', cs', v, h1, h2, h3, h4⟩ := hc
    by_cases ea : a' = a
    · subst ea
      have ex := uniq x' h1
      subst ex
      rw [hcs] at h2
      cases h2
      by_cases ed : d = d'
      · subst ed
        exact ⟨a', _, .ref t, h1, upd_same, by rw [List.getElem?_set, if_pos rfl, if_pos hd], t, rfl, tm _ _ ht⟩
      · exact ⟨a', _, v, h1, upd_same, by rw [List.getElem?_set, if_neg ed]; exact h3, h4.tm tm⟩
    · exact ⟨a', cs', v, h1, by rw [upd_ne ea]; exact h2, h3, h4.tm tm⟩
end
/-- the cells of the ties below i, and those of the tie i below k -/
def DoneH (H : Hp) (as : List Addr) (W : Web) (m : Nat) (Tu : List (List Nat)) (i k : Nat) : Prop := ∀ (t : Nat) (e : Pt × Pt) (j : Nat) (π : List Nat), (endsOf W)[t]? = some e → Tu[t]? = some π → j < m → (t < i ∨ t = i ∧ j < k) →
  CellH H as W Tu (e.1.1 + j * W.length) e.1.2 ∧ CellH H as W Tu (e.2.1 + nn π j * W.length) e.2.2
abbrev N_law_sheeted : List Str := ["_law_web_here", "_law_turns", "_law_many", "_law_made", "_law_t", "_law_one", "_law_other", "_law_k", "_law_spot", "_law_there", "_law_n", "_law_room"]
theorem sc_law_sheeted : FnScope N_law_sheeted ["_law_web_here", "_law_turns", "_law_many"] (defScope s_law_sheeted) := ⟨rfl, rfl, rfl, by decide +kernel, rfl, by decide +kernel, by decide +kernel⟩
def spSheeted : Sp := fun vs H Q _ => ∃ (p tl : Addr) (W : Web) (rm : Nat → Addr) (en : Nat → Nat → Addr) (m : Nat) (tv : List L2.V) (Tu : List (List Nat)), vs = [.ref p, .ref tl, iv m] ∧ WebH H p W rm en ∧ Valid W ∧ Mid W ∧ 0 < W.length ∧ m * W.length ≤ 24 ∧ H tl = some (.lst tv) ∧ Paired (WayV H) tv Tu ∧ TurnsOk W m Tu ∧
  ∀ v H', Same H H' → Made H' v (sheetW W m Tu) (m * W.length) → Q v H'
theorem has_sheeted (B : Bt mg) (T : Top K mg "_law_sheeted" s_law_sheeted) (H_law_ends_ : Has P w K mg base "_law_ends" ["_law_web_here"] 1 spEnds) : Has P w K mg base "_law_sheeted" ["_law_web_here", "_law_turns", "_law_many"] 2 spSheeted := by
  obtain ⟨f_law_ends_, fd_law_ends_, G_law_ends_, m_law_ends_, kp_law_ends_, b_law_ends_⟩ := H_law_ends_.ex
  obtain ⟨f, fd, F, hm⟩ := T.ex
  refine ⟨f, fd, ?_, hm, F.kp, F.binds fun _ _ _ _ _ _ us hl => match us, hl with | [_, _, _], _ => rfl⟩
  refine F.ok sc_law_sheeted (fun vs H Q E h => ?_) (fun cdv A outer s H vs Q E hr h => ?_)
  · obtain ⟨p, tl, W, rm, en, m, tv, Tu, rfl, _⟩ := h
    rfl
  · obtain ⟨p, tl, W, rm, en, m, tv, Tu, rfl, hW, vW, mW, hpos, hsz, htl, htv, hT, k⟩ := h
    refine ⟨_, (pss_cons (ps_setLc (i := 3) (own := [("_law_n", 10)]) (g := gName 10) rfl sc_law_sheeted.nd rfl rfl (sw_true rfl rfl rfl (by decide +kernel)) (pi_range1 (by rfl) B.range_ (pa_cons (pe_op op_mul (pv 2) (pe_callB (k_len K rfl) (by rfl) B.len_ PySem.boot_len (pa_cons (pv 0) pa_nil))) pa_nil)) (blkOk_by (N := N_law_sheeted) (sc := defScope s_law_sheeted) (by decide +kernel)) (fun _ _ _ _ _ => (pg_name (i := 10) sc_law_sheeted.nd rfl (Or.inl rfl))) (fun _ _ _ _ _ => pts_nil) (fun _ _ _ _ _ => (pe_op op_rep (pe_lst (pa_cons pe_non pa_nil)) (pe_callB (k_len K rfl) (by rfl) B.len_ PySem.boot_len (pa_cons (pe_ix (k_ixt K rfl) (pv 0) (pe_op op_mod (pv 10) (pe_callB (k_len K rfl) (by rfl) B.len_ PySem.boot_len (pa_cons (pv 0) pa_nil))) (fun _ _ => rfl)) pa_nil)))))
      (pss_cons (ps_for PassesOwn.never rfl (pi_enum (by rfl) B.enumerate_ (pa_cons (pe_call G_law_ends_ (hr.mono (by decide)) (by rfl) m_law_ends_ kp_law_ends_ b_law_ends_ .nil pass0 (pa_cons (pv 0) pa_nil)) pa_nil)) (pg_tup rfl (pgs_cons (pg_name (i := 4) sc_law_sheeted.nd rfl (Or.inl rfl)) (pgs_cons (pg_tup rfl (pgs_cons (pg_name (i := 5) sc_law_sheeted.nd rfl (Or.inl rfl)) (pgs_cons (pg_name (i := 6) sc_law_sheeted.nd rfl (Or.inl rfl)) pgs_nil))) pgs_nil)))
      (pss_one (ps_for PassesOwn.never rfl (pi_range1 (by rfl) B.range_ (pa_cons (pv 2) pa_nil)) (pg_name (i := 7) sc_law_sheeted.nd rfl (Or.inl rfl))
      (pss_cons (ps_set (i := 8) sc_law_sheeted.nd rfl (Or.inl rfl) (pe_op op_add (pe_ix (k_ixt K rfl) (pv 5) pe_int (fun _ _ => rfl)) (pe_op op_mul (pv 7) (pe_callB (k_len K rfl) (by rfl) B.len_ PySem.boot_len (pa_cons (pv 0) pa_nil)))))
      (pss_cons (ps_set (i := 9) sc_law_sheeted.nd rfl (Or.inl rfl) (pe_op op_add (pe_ix (k_ixt K rfl) (pv 6) pe_int (fun _ _ => rfl)) (pe_op op_mul (pe_ix (k_ixt K rfl) (pe_ix (k_ixl K rfl) (pv 1) (pv 4) (fun _ _ => rfl)) (pv 7) (fun _ _ => rfl)) (pe_callB (k_len K rfl) (by rfl) B.len_ PySem.boot_len (pa_cons (pv 0) pa_nil)))))
      (pss_cons (ps_asg (pe_tup (pa_cons (pv 9) (pa_cons (pe_ix (k_ixt K rfl) (pv 6) pe_int (fun _ _ => rfl)) pa_nil))) (pg_sub (pe_ix (k_ixl K rfl) (pv 3) (pv 8) (fun _ _ => rfl)) (pe_ix (k_ixt K rfl) (pv 5) pe_int (fun _ _ => rfl)) set_list))
      (pss_one (ps_asg (pe_tup (pa_cons (pv 8) (pa_cons (pe_ix (k_ixt K rfl) (pv 5) pe_int (fun _ _ => rfl)) pa_nil))) (pg_sub (pe_ix (k_ixl K rfl) (pv 3) (pv 9) (fun _ _ => rfl)) (pe_ix (k_ixt K rfl) (pv 6) pe_int (fun _ _ => rfl)) set_list)))))))))
      (pss_one (ps_ret (pe_callTy (k_tuple K rfl) (by rfl) B.tuple_ (by decide +kernel) (pa_cons (pe_lc (own := [("_law_room", 11)]) (g := gName 11) rfl sc_law_sheeted.nd (pi_list (pv 3)) (blkOk_by (N := N_law_sheeted) (sc := defScope s_law_sheeted) (by decide +kernel)) (fun _ _ _ _ _ => (pg_name (i := 11) sc_law_sheeted.nd rfl (Or.inl rfl))) (fun _ _ _ _ _ => pts_nil) (fun _ _ _ _ _ => (pe_callTy (k_tuple K rfl) (by rfl) B.tuple_ (by decide +kernel) (pa_cons (pv 11) pa_nil)))) pa_nil)))))), ?_⟩
    have hrooms := mW.rooms
    have hm24 : m ≤ 24 := by
      have := Nat.mul_le_mul_left m hpos
      omega
    have emul : (m : Int) * ((roomsV W rm).length : Int) = ((m * W.length : Nat) : Int) := by rw [roomsV_len]; exact (Int.natCast_mul m W.length).symm
    refine ⟨_, rfl, _, rfl, p, _, rfl, .inr (SqT.of hW.web), _, _, rfl, rfl, .inl ⟨by omega, by omega⟩, (m : Int) * ((roomsV W rm).length : Int), rfl, by rw [emul]; omega, by rw [emul]; omega, fun ml hml => ?_⟩
    rw [emul]
    refine lcFresh walk_range (fun x => List.replicate (deg W (x % W.length)) .non) hml (by omega) (fun _ _ => trivial) (fun i Hi x Hx y => y_fn y) ?_ ?_
    · rintro x v Hi Hx Qc hx s1 ⟨rfl, rfl⟩ q2
      show gName 10 (L2.V.int (0 + (x : Int))) _ _ _
      rw [show (0 : Int) + (x : Int) = (x : Int) from Int.zero_add _]
      have hW1 := hW.tm (Tm.of s1)
      have hr : x % W.length < W.length := Nat.mod_lt _ hpos
      have hdr := mW.doors (x % W.length)
      have em : (x : Int) % ((roomsV W rm).length : Int) = ((x % W.length : Nat) : Int) := by rw [roomsV_len]; exact (Int.natCast_emod x W.length).symm
      refine ⟨rfl, sz1000 (by show 1 ≤ 100000; decide), fun z hz => ?_⟩
      have hW2 := hW1.tm (Tm.new (o := .lst [L2.V.non]) hz)
      refine ⟨_, rfl, _, rfl, _, rfl, p, _, rfl, .inr (SqT.of hW2.web), _, _, rfl, rfl, ?_, p, _, _, _, rfl, rfl, SqT.of hW2.web, em ▸ roomsV_at hr, rm (x % W.length), _, rfl, .inr (SqT.of (hW2.room _ hr)), z, _, _, rfl, rfl, upd_same, by rw [endsV_len]; omega, by rw [endsV_len]; omega, ?_, fun a ha => ?_⟩
      · show (0 : Int) < ((roomsV W rm).length : Int)
        rw [roomsV_len]; omega
      · rw [endsV_len]
        show 1 * ((deg W (x % W.length) : Nat) : Int).toNat ≤ sizeLine
        exact sz1000 (by omega)
      · refine q2 a _ (same_upd (same_new hz) ha) ((same_new hz).free ha) ?_
        rw [upd_same, endsV_len, Int.toNat_natCast]
        exact congrArg (fun l => some (HO.lst l)) List.flatten_replicate_singleton
    intro H1 as s1 hA haslen hasnd has1
    rw [Int.toNat_natCast] at haslen
    have hml0 : H ml = none := hml
    have hasn : ∀ a ∈ as, H a = none ∧ a ≠ ml := fun a ha => by
      obtain ⟨j, hj⟩ := List.mem_iff_getElem?.mp ha
      exact (has1 j a hj).2
    have hS1 : SheetH H1 ml as W m Tu := ⟨hA, haslen, fun x a e => ⟨_, (has1 x a e).1, List.length_replicate, fun d v hv => by
      rw [List.getElem?_replicate] at hv
      split at hv
      · cases hv; exact .inl rfl
      · cases hv⟩⟩
    refine ⟨_, rfl, p, W, rm, en, rfl, hW.tm (Tm.of s1), mW, fun E H2 ys s2 hE0 hE hys => ?_⟩
    have s12 := s1.trans s2
    have hEl := paired_len hys
    have hE00 : H E = none := s1.free hE0
    have nEml : E ≠ ml := fun e => by subst e; rw [hA] at hE0; cases hE0
    have nEas : ∀ a ∈ as, E ≠ a := fun a ha e => by
      obtain ⟨j, hj⟩ := List.mem_iff_getElem?.mp ha
      have := (has1 j a hj).1
      rw [← e, hE0] at this; cases this
    refine ⟨E, ys, rfl, SqL.of hE, for_enumL (fun i σ H' => ∃ (c4 c5 c6 c7 c8 c9 : Option L2.V), σ = [some (.ref p), some (.ref tl), some (iv m), some (.ref ml), c4, c5, c6, c7, c8, c9, none, none] ∧ Same H H' ∧ H' E = some (.lst ys) ∧ Paired (EndV H') ys (endsOf W) ∧ SheetH H' ml as W m Tu ∧ DoneH H' as W m Tu i 0)
      ⟨none, none, none, none, none, none, rfl, s12, hE, hys, hS1.same s2, fun t e j π _ _ _ z => by omega⟩ (fun i σ H' ⟨_, _, _, _, _, _, _, _, h, _⟩ => SqL.of h) ?_ ?_⟩
    · rintro i v T σ H3 hi ⟨c4, c5, c6, c7, c8, c9, rfl, s3, hE3, hys3, hS3, hD3⟩ hT0
      obtain ⟨e, he, q, q1, q2, rfl, hq, hq1, hq2⟩ := paired_get' hys3 hi
      obtain ⟨g1, g2, g3⟩ := ends_mem (List.mem_of_getElem? he)
      have hr1 := lt_of_deg g1
      have hr2 : e.2.1 < W.length := by rw [g2]; exact vW.lt _ _ g1
      have hd2 : e.2.2 < deg W e.2.1 := by rw [g2]; exact vW.dlt _ _ g1
      have s4 := same_upd (o := .tup [.int (i : Nat), .ref q]) s3 hT0
      have s34 := same_new (o := .tup [.int (i : Nat), .ref q]) hT0
      refine ⟨T, _, rfl, SqT.of upd_same, rfl, _, _, rfl, _, _, rfl, ⟨q, _, rfl, SqT.of (s34 _ _ hq), rfl, _, _, rfl, _, _, rfl, rfl, rfl, ?_⟩⟩
      have hS4 := hS3.same s34
      have hq1' := s34 _ _ hq1
      have hq2' := s34 _ _ hq2
      have hE4 := s34 _ _ hE3
      have hys4 := Paired.mapP hys3 fun _ _ (z : EndV H3 _ _) => z.tm (Tm.of s34)
      have hD4 : DoneH (upd H3 T (.tup [.int (i : Nat), .ref q])) as W m Tu i 0 := fun t e j π a b c d => let ⟨x, y⟩ := hD3 t e j π a b c d; ⟨x.same s34, y.same s34⟩
      obtain ⟨π, hπ, _⟩ := hT.get i e he
      obtain ⟨πv, hπv, πa, rfl, hπa⟩ := paired_get htv hπ
      generalize upd H3 T (.tup [.int (i : Nat), .ref q]) = H4 at *
      refine ⟨_, rfl, (m : Int), rfl, by omega, by omega, for_range (lo := 0) (n := _) (fun j σ H' => ∃ (c7 c8 c9 : Option L2.V), σ = [some (.ref p), some (.ref tl), some (iv m), some (.ref ml), some (iv i), some (.ref q1), some (.ref q2), c7, c8, c9, none, none] ∧ Same H H' ∧ Tm H4 H' ∧ H' E = some (.lst ys) ∧ SheetH H' ml as W m Tu ∧ DoneH H' as W m Tu i j)
        ⟨_, _, _, rfl, s4, Tm.refl _, hE4, hS4, hD4⟩ ?_ ?_⟩
      · rintro j σ H5 hj ⟨c7, c8, c9, rfl, s5, tm5, hE5, hS5, hD5⟩
        have hj : j < m := by omega
        rw [show (0 : Int) + (j : Int) = (j : Int) from Int.zero_add _]
        obtain ⟨π', hπ', hok, hlt, f1, f2⟩ := sheet_tie vW hT he hj
        rw [hπ] at hπ'; cases hπ'
        have hW5 := hW.tm (Tm.of s5)
        have e1 : (e.1.1 : Int) + (j : Int) * ((roomsV W rm).length : Int) = ((e.1.1 + j * W.length : Nat) : Int) := by rw [roomsV_len, Int.natCast_add, Int.natCast_mul]
        have e2 : (e.2.1 : Int) + (nn π j : Int) * ((roomsV W rm).length : Int) = ((e.2.1 + nn π j * W.length : Nat) : Int) := by rw [roomsV_len, Int.natCast_add, Int.natCast_mul]
        have hs1 := sheet_lt hr1 hj
        have hs2 := sheet_lt hr2 hlt
        refine ⟨_, rfl, q1, _, _, _, rfl, rfl, SqT.of (tm5 _ _ hq1'), atI_nat (j := 0) rfl, _, rfl, _, rfl, p, _, rfl, .inr (SqT.of hW5.web), _, _, rfl, rfl, .inl ⟨by omega, by omega⟩, _, _, rfl, rfl, ?_⟩
        refine ⟨_, rfl, q2, _, _, _, rfl, rfl, SqT.of (tm5 _ _ hq2'), atI_nat (j := 0) rfl, _, rfl, _, rfl, tl, _, _, _, rfl, rfl, SqL.of (s5 _ _ htl), atI_nat hπv, _, rfl, πa, _, _, _, rfl, rfl, SqT.of (s5 _ _ hπa), nn_at (by rw [hok.len]; exact hj), _, rfl, p, _, rfl, .inr (SqT.of hW5.web), _, _, rfl, rfl, .inl ⟨by omega, by omega⟩, _, _, rfl, rfl, ?_⟩
        have m1 : ∀ {r k : Nat}, r < W.length → (r + k * W.length) % W.length = r := fun h => by rw [Nat.add_mul_mod_self_right, Nat.mod_eq_of_lt h]
        have hx1 : e.1.1 + j * W.length < as.length := by rw [haslen]; exact hs1
        have hx2 : e.2.1 + nn π j * W.length < as.length := by rw [haslen]; exact hs2
        obtain ⟨a1, ha1⟩ : ∃ a, as[e.1.1 + j * W.length]? = some a := ⟨_, List.getElem?_eq_getElem hx1⟩
        obtain ⟨a2, ha2⟩ : ∃ a, as[e.2.1 + nn π j * W.length]? = some a := ⟨_, List.getElem?_eq_getElem hx2⟩
        have at1 : atI (as.map L2.V.ref) ((e.1.1 : Int) + (j : Int) * ((roomsV W rm).length : Int)) = some (.ref a1) := by rw [e1]; exact atI_nat (get_map ha1)
        have at2 : atI (as.map L2.V.ref) ((e.2.1 : Int) + (nn π j : Int) * ((roomsV W rm).length : Int)) = some (.ref a2) := by rw [e2]; exact atI_nat (get_map ha2)
        obtain ⟨n1, n1'⟩ := hasn a1 (List.mem_of_getElem? ha1)
        obtain ⟨n2, n2'⟩ := hasn a2 (List.mem_of_getElem? ha2)
        refine ⟨_, rfl, _, rfl, q2, _, _, _, rfl, rfl, SqT.of (tm5 _ _ hq2'), atI_nat (j := 1) rfl, sz1000 (by show 2 ≤ 100000; decide), fun t1 ht1 => ?_⟩
        have s6 := same_new (o := .tup [.int ((e.2.1 : Int) + (nn π j : Int) * ((roomsV W rm).length : Int)), iv e.2.2]) ht1
        have ht1' : upd H5 t1 (.tup [.int ((e.2.1 : Int) + (nn π j : Int) * ((roomsV W rm).length : Int)), iv e.2.2]) t1 = some (.tup [iv (sheetF W Tu (e.1.1 + j * W.length) e.1.2).1, iv (sheetF W Tu (e.1.1 + j * W.length) e.1.2).2]) := by rw [upd_same, f1, e2]
        have hS6 := hS5.same s6
        obtain ⟨cs1, hc1, hl1, _⟩ := hS6.row _ _ ha1
        rw [m1 hr1] at hl1
        have tm6 := tm5.trans (Tm.of s6)
        refine ⟨_, rfl, _, rfl, ml, _, _, _, rfl, rfl, SqL.of hS6.lst, at1, _, rfl, q1, _, _, _, rfl, rfl, SqT.of (tm6 _ _ hq1'), atI_nat (j := 1) rfl, a1, cs1, _, e.1.2, rfl, rfl, hc1, Evl.ixN_nat (by omega), ?_⟩
        obtain ⟨hS7, hC7, hO7⟩ := hS6.put hasnd (fun a ha => (hasn a ha).2) ha1 hc1 (by omega) ht1'
        have s7 : Same H _ := same_mut (o := .lst (cs1.set e.1.2 (.ref t1))) (s5.trans s6) n1
        have tm7 := tm6.trans (Tm.lst (o := .lst (cs1.set e.1.2 (.ref t1))) hc1)
        have hE7 : upd (upd H5 t1 (.tup [.int ((e.2.1 : Int) + (nn π j : Int) * ((roomsV W rm).length : Int)), iv e.2.2])) a1 (.lst (cs1.set e.1.2 (.ref t1))) E = some (.lst ys) := by rw [upd_ne (nEas a1 (List.mem_of_getElem? ha1))]; exact s6 _ _ hE5
        have hD7 : DoneH (upd (upd H5 t1 (.tup [.int ((e.2.1 : Int) + (nn π j : Int) * ((roomsV W rm).length : Int)), iv e.2.2])) a1 (.lst (cs1.set e.1.2 (.ref t1)))) as W m Tu i j := fun t e j π a b c d => let ⟨x, y⟩ := hD5 t e j π a b c d; ⟨hO7 _ _ (x.same s6), hO7 _ _ (y.same s6)⟩
        generalize upd (upd H5 t1 (.tup [.int ((e.2.1 : Int) + (nn π j : Int) * ((roomsV W rm).length : Int)), iv e.2.2])) a1 (.lst (cs1.set e.1.2 (.ref t1))) = H7 at *
        refine ⟨_, rfl, _, rfl, q1, _, _, _, rfl, rfl, SqT.of (tm7 _ _ hq1'), atI_nat (j := 1) rfl, sz1000 (by show 2 ≤ 100000; decide), fun t2 ht2 => ?_⟩
        have s8 := same_new (o := .tup [.int ((e.1.1 : Int) + (j : Int) * ((roomsV W rm).length : Int)), iv e.1.2]) ht2
        have ht2' : upd H7 t2 (.tup [.int ((e.1.1 : Int) + (j : Int) * ((roomsV W rm).length : Int)), iv e.1.2]) t2 = some (.tup [iv (sheetF W Tu (e.2.1 + nn π j * W.length) e.2.2).1, iv (sheetF W Tu (e.2.1 + nn π j * W.length) e.2.2).2]) := by rw [upd_same, f2, e1]
        have hS8 := hS7.same s8
        obtain ⟨cs2, hc2, hl2, _⟩ := hS8.row _ _ ha2
        rw [m1 hr2] at hl2
        have tm8 := tm7.trans (Tm.of s8)
        refine ⟨_, rfl, _, rfl, ml, _, _, _, rfl, rfl, SqL.of hS8.lst, at2, _, rfl, q2, _, _, _, rfl, rfl, SqT.of (tm8 _ _ hq2'), atI_nat (j := 1) rfl, a2, cs2, _, e.2.2, rfl, rfl, hc2, Evl.ixN_nat (by omega), ?_⟩
        obtain ⟨hS9, hC9, hO9⟩ := hS8.put hasnd (fun a ha => (hasn a ha).2) ha2 hc2 (by omega) ht2'
        refine ⟨_, _, _, rfl, same_mut (s7.trans s8) n2, tm8.trans (Tm.lst hc2), by rw [upd_ne (nEas a2 (List.mem_of_getElem? ha2))]; exact s8 _ _ hE7, hS9, fun t' e' j' π' h1 h2 h3 h4 => ?_⟩
        by_cases z : t' < i ∨ t' = i ∧ j' < j
        · obtain ⟨x, y⟩ := hD7 t' e' j' π' h1 h2 h3 z
          exact ⟨hO9 _ _ (x.same s8), hO9 _ _ (y.same s8)⟩
        · have et : t' = i := by omega
          have ej : j' = j := by omega
          subst et; subst ej
          rw [he] at h1; cases h1
          rw [hπ] at h2; cases h2
          exact ⟨hO9 _ _ (hC7.same s8), hC9⟩
      · rintro σ H5 ⟨c7, c8, c9, rfl, s5, tm5, hE5, hS5, hD5⟩
        rw [Int.toNat_natCast] at hD5
        exact ⟨_, _, _, _, _, _, rfl, s5, hE5, Paired.mapP hys4 fun _ _ (z : EndV H4 _ _) => z.tm tm5, hS5, fun t' e' j' π' h1 h2 h3 h4 => hD5 t' e' j' π' h1 h2 h3 (by omega)⟩
    · rintro σ H3 ⟨c4, c5, c6, c7, c8, c9, rfl, s3, hE3, hys3, hS3, hD3⟩
      rw [hEl] at hD3
      have hcell : ∀ x d, x < m * W.length → d < deg W (x % W.length) → CellH H3 as W Tu x d := fun x d hx hd => by
        obtain ⟨t, e, j, π, he, hj, hπ, hc⟩ := sheet_cell vW hT hx hd
        obtain ⟨a, b⟩ := hD3 t e j π he hπ hj (.inl (len_lt he))
        rcases hc with ⟨rfl, rfl⟩ | ⟨rfl, rfl⟩
        · exact a
        · exact b
      refine ⟨_, rfl, ml, rfl, ⟨_, SqL.of hS3.lst⟩, fun D hD => lcP walk_list (fun x H z => RowV H z ((List.range (deg W (x % W.length))).map (sheetF W Tu x))) hD (by rw [List.length_map, haslen]; omega) (fun H' s => SqL.of (s _ _ hS3.lst)) (fun j z H' H'' hA r k => r.tm (r_tm hA k)) (fun i Hi x Hx y => y_at y) ?_ ?_⟩
      · rintro x v Hi Hx Qc hx s4 _ ⟨rfl, hv⟩ q2
        rw [List.length_map, haslen] at hx
        obtain ⟨a, ha, rfl⟩ := map_get hv
        obtain ⟨cs, h1, h2, _⟩ := hS3.row x a ha
        refine ⟨rfl, _, rfl, a, cs, rfl, .inl ⟨SqL.of (s4 _ _ h1), fun q hq => q2 _ _ (same_new hq) ⟨q, cs, rfl, upd_same, paired_of (by rw [h2]; simp) fun d y z hy hz => ?_⟩⟩⟩
        have hd : d < deg W (x % W.length) := by have := len_lt hy; omega
        obtain ⟨a', cs', v, g1, g2, g3, g4⟩ := hcell x d hx hd
        rw [ha] at g1; cases g1
        rw [h1] at g2; cases g2
        rw [hy] at g3; cases g3
        have ez : z = sheetF W Tu x d := Option.some.inj (hz.symm.trans (rg_get hd))
        rw [ez]
        exact (g4.tm (Tm.of s4)).tm (Tm.new hq)
      · intro H4 acc s4 hA4 hlen4 hval4
        rw [List.length_map, haslen] at hlen4
        refine ⟨D, acc, rfl, .inl ⟨SqL.of hA4, fun t ht => ?_⟩⟩
        refine k _ _ (same_upd (s3.trans s4) ht) ⟨webV_of upd_same (paired_of (by rw [hlen4]; unfold sheetW; rw [mkW_len]) fun x y z hy hz => ?_), sheet_valid vW hT, mkW_len, mkW_doors fun x _ => mW.doors _⟩
        have hx : x < m * W.length := by have := len_lt hy; omega
        have ez : z = (List.range (deg W (x % W.length))).map (sheetF W Tu x) := Option.some.inj (hz.symm.trans (mkW_row hx))
        rw [ez]
        exact (hval4 x y hy).tm (Tm.new ht)
end
end K18
namespace K18
open PySem PySem.Spec PyProof.Rows L2
section
variable {P : Program} {w : World} {K : PySem.W.Frag} {mg : Str → Option Value} {base : Heap}
/-! _law_covered, _law_any_web -/
theorem pick_list {α β : Type} : ∀ {xs : List α} {A : Nat → α → β → Prop}, (∀ (j : Nat) (z : α), xs[j]? = some z → ∃ y, A j z y) → ∃ ys : List β, ys.length = xs.length ∧ ∀ (j : Nat) (z : α), xs[j]? = some z → ∃ y, ys[j]? = some y ∧ A j z y
  | [], _, _ => ⟨[], rfl, fun j z h => by simp at h⟩
  | x :: xs, A, h => by
    obtain ⟨y, hy⟩ := h 0 x rfl
    obtain ⟨ys, h1, h2⟩ := pick_list (xs := xs) (A := fun j z y => A (j + 1) z y) fun j z hz => h (j + 1) z hz
    refine ⟨y :: ys, by simp [h1], fun j z hz => ?_⟩
    cases j with
    | zero => cases hz; exact ⟨y, rfl, hy⟩
    | succ j => exact h2 j z hz
abbrev N_law_covered : List Str := ["_law_box_here", "_law_web_here", "_law_many", "_law_turn_here", "_law_turns", "_law_made", "_law_pair"]
theorem sc_law_covered : FnScope N_law_covered ["_law_box_here", "_law_web_here", "_law_many"] (defScope s_law_covered) := ⟨rfl, rfl, rfl, by decide +kernel, rfl, by decide +kernel, by decide +kernel⟩
def spCovered : Sp := fun vs H Q _ => ∃ (b p : Addr) (W : Web) (rm : Nat → Addr) (en : Nat → Nat → Addr) (m f : Nat), vs = [.ref b, .ref p, iv m] ∧ BoxOk H b f ∧ WebH H p W rm en ∧ Valid W ∧ Mid W ∧ 0 < W.length ∧ 0 < m ∧ m * W.length ≤ 24 ∧ f + 200000 ≤ 1000000000 ∧
  ∀ v H' W' n, BK b H H' → BoxOk H' b (f + 200000) → Made H' v W' n → 0 < n → n ≤ 24 → Cov W' W → Q v H'
theorem has_covered (B : Bt mg) (T : Top K mg "_law_covered" s_law_covered) (H_law_ends_ : Has P w K mg base "_law_ends" ["_law_web_here"] 1 spEnds) (H_law_turn_ : Has P w K mg base "_law_turn" ["_law_box_here", "_law_many", "_law_own"] 2 spTurn)
    (H_law_sheeted_ : Has P w K mg base "_law_sheeted" ["_law_web_here", "_law_turns", "_law_many"] 2 spSheeted) (H_law_reached_ : Has P w K mg base "_law_reached" ["_law_web_here", "_law_room"] 1 spReached) :
    Has P w K mg base "_law_covered" ["_law_box_here", "_law_web_here", "_law_many"] 3 spCovered := by
  obtain ⟨f_law_ends_, fd_law_ends_, G_law_ends_, m_law_ends_, kp_law_ends_, b_law_ends_⟩ := H_law_ends_.ex
  obtain ⟨f_law_turn_, fd_law_turn_, G_law_turn_, m_law_turn_, kp_law_turn_, b_law_turn_⟩ := H_law_turn_.ex
  obtain ⟨f_law_sheeted_, fd_law_sheeted_, G_law_sheeted_, m_law_sheeted_, kp_law_sheeted_, b_law_sheeted_⟩ := H_law_sheeted_.ex
  obtain ⟨f_law_reached_, fd_law_reached_, G_law_reached_, m_law_reached_, kp_law_reached_, b_law_reached_⟩ := H_law_reached_.ex
  obtain ⟨f, fd, F, hm⟩ := T.ex
  refine ⟨f, fd, ?_, hm, F.kp, F.binds fun _ _ _ _ _ _ us hl => match us, hl with | [_, _, _], _ => rfl⟩
  refine F.ok sc_law_covered (fun vs H Q E h => ?_) (fun cdv A outer s H vs Q E hr h => ?_)
  · obtain ⟨b, p, W, rm, en, m, f, rfl, _⟩ := h
    rfl
  · obtain ⟨b, p, W, rm, en, m, f, rfl, hb, hW, vW, mW, hpos, hm0, hsz, hf, k⟩ := h
    refine ⟨_, (pss_cons (ps_for PassesOwn.never rfl (pi_range1 (by rfl) B.range_ (pa_cons pe_int pa_nil)) (pg_name (i := 3) sc_law_covered.nd rfl (Or.inl rfl))
      (pss_cons (ps_setLc (i := 4) (own := [("_law_pair", 6)]) (g := gName 6) rfl sc_law_covered.nd rfl rfl (sw_true rfl rfl rfl (by decide +kernel)) (pi_list (pe_call G_law_ends_ (hr.mono (by decide)) (by rfl) m_law_ends_ kp_law_ends_ b_law_ends_ .nil pass0 (pa_cons (pv 1) pa_nil))) (blkOk_by (N := N_law_covered) (sc := defScope s_law_covered) (by decide +kernel)) (fun _ _ _ _ _ => (pg_name (i := 6) sc_law_covered.nd rfl (Or.inl rfl))) (fun _ _ _ _ _ => pts_nil) (fun _ _ _ _ _ => (pe_call G_law_turn_ (hr.mono (by decide)) (by rfl) m_law_turn_ kp_law_turn_ b_law_turn_ .nil pass0 (pa_cons (pv 0) (pa_cons (pv 2) (pa_cons (pe_cmpR (k_eqD K rfl hr.units) (pe_ix (k_ixt K rfl) (pv 6) pe_int (fun _ _ => rfl)) (pe_ix (k_ixt K rfl) (pv 6) pe_int (fun _ _ => rfl)) (nomark _)) pa_nil))))))
      (pss_cons (ps_set (i := 5) sc_law_covered.nd rfl (Or.inl rfl) (pe_call G_law_sheeted_ (hr.mono (by decide)) (by rfl) m_law_sheeted_ kp_law_sheeted_ b_law_sheeted_ .nil pass0 (pa_cons (pv 1) (pa_cons (pv 4) (pa_cons (pv 2) pa_nil)))))
      (pss_one (ps_if (pt_cmpR op_eq (pe_callB (k_len K rfl) (by rfl) B.len_ PySem.boot_len (pa_cons (pe_call G_law_reached_ (hr.mono (by decide)) (by rfl) m_law_reached_ kp_law_reached_ b_law_reached_ .nil pass0 (pa_cons (pv 5) (pa_cons pe_int pa_nil))) pa_nil)) (pe_callB (k_len K rfl) (by rfl) B.len_ PySem.boot_len (pa_cons (pv 5) pa_nil)) (nomark _)) (pss_one (ps_ret (pv 5))) pss_nil)))))
      (pss_one (ps_ret (pv 1)))), ?_⟩
    have hrooms := mW.rooms
    have hm24 : m ≤ 24 := by
      have := Nat.mul_le_mul_left m hpos
      omega
    have hel := ends_len W 100 mW.doors
    have hel2 : (endsOf W).length ≤ 2400 := by omega
    refine ⟨3, rfl, by decide, by decide, for_range (lo := 0) (n := _) (fun i σ H' => ∃ (c3 c4 c5 : Option L2.V), σ = [some (.ref b), some (.ref p), some (iv m), c3, c4, c5, none] ∧ BK b H H' ∧ BoxOk H' b (f + 60000 * i))
      ⟨none, none, none, rfl, BK.refl hb.some, hb⟩ ?_ ?_⟩
    · rintro i σ H1 hi ⟨c3, c4, c5, rfl, k1, b1⟩
      have hi : i < 3 := hi
      have hW1 := hW.tm k1.tm
      refine ⟨_, rfl, p, W, rm, en, rfl, hW1, mW, fun E H2 ys s2 hE0 hE hys => ⟨E, rfl, ⟨_, SqL.of hE⟩, fun D hD => ?_⟩⟩
      have b2 := b1.same s2
      have k2 := k1.same s2
      have hysl := paired_len hys
      have nEb : E ≠ b := k1.ne hE0
      refine lcB walk_list b (fun j H' => BoxOk H' b (f + 60000 * i + j * m)) (fun j H z => ∃ π, WayV H z π ∧ ∀ e, (endsOf W)[j]? = some e → TurnOk π m (decide (e.1 = e.2))) hD b2.some (by omega) (fun H' k3 => SqL.of (k3.keep _ _ hE nEb)) (by rw [Nat.zero_mul]; exact b2) (fun j H' H'' a c => a.keep c)
        (fun j z H' H'' hA hB ⟨π, h1, h2⟩ k => ⟨π, h1.tm (rb_tm hA hB k), h2⟩) (fun i Hi x Hx y => yb_at y) ?_ ?_
      · rintro j v Hi Hx Qc hj k3 b3 ⟨rfl, hx⟩ _ q2
        obtain ⟨e, he, q, q1, q2', rfl, hq, hq1, hq2⟩ := paired_get' hys hx
        have hjl := len_lt he
        have hjm : j * m + m ≤ 58000 := by
          have h1 : (j + 1) * m ≤ 2400 * 24 := Nat.mul_le_mul (by omega) hm24
          rw [Nat.succ_mul] at h1
          omega
        refine ⟨rfl, _, rfl, _, rfl, _, rfl, q, _, _, _, rfl, rfl, SqT.of (k3.tm _ _ hq), atI_nat (j := 0) rfl, _, rfl, q, _, _, _, rfl, rfl, SqT.of (k3.tm _ _ hq), atI_nat (j := 1) rfl, _, _, dp_pt ⟨q1, rfl, k3.tm _ _ hq1⟩, dp_pt ⟨q2', rfl, k3.tm _ _ hq2⟩, pair_shaped _, pair_shaped _, b, m, f + 60000 * i + j * m, decide (e.1 = e.2), by rw [ptD_eqv]; rfl, b3, by omega, by omega, fun πa H4 π k4 b4 hπ hok => ?_⟩
        refine q2 _ _ k4 (b4.le (by have e : (j + 1) * m = j * m + m := Nat.succ_mul j m; omega)) ⟨π, ⟨πa, rfl, hπ⟩, fun e' he' => ?_⟩
        rw [he] at he'; cases he'
        exact hok
      intro H3 acc k3 b3 hA hlen hval
      obtain ⟨Tu, hTl, hTu⟩ := pick_list hval
      have k13 := k2.trans k3
      have hW3 := hW.tm k13.tm
      have hT : TurnsOk W m Tu := ⟨fun t e he => by
        have ht : t < acc.length := by have := len_lt he; omega
        obtain ⟨π, h1, h2, h3⟩ := hTu t _ (List.getElem?_eq_getElem ht)
        exact ⟨π, h1, h3 e he⟩⟩
      have hTv : Paired (WayV H3) acc Tu := paired_of hTl.symm fun j y z hy hz => by
        obtain ⟨π, h1, h2, _⟩ := hTu j y hy
        rw [hz] at h1; cases h1
        exact h2
      have b3' : BoxOk H3 b (f + 60000 * (i + 1)) := by
        have h1 : ys.length * m ≤ 2400 * 24 := Nat.mul_le_mul (by omega) hm24
        exact b3.le (by omega)
      refine ⟨_, rfl, _, rfl, _, rfl, p, D, W, rm, en, m, acc, Tu, rfl, hW3, vW, mW, hpos, hsz, hA, hTv, hT, fun v H4 s4 hM => ?_⟩
      obtain ⟨p', rm', en', rfl, hW'⟩ := hM.web
      have hM' := hM.len
      have mW' : Mid (sheetW W m Tu) := ⟨by omega, hM.doors⟩
      have hn0 : 0 < m * W.length := Nat.mul_pos hm0 hpos
      refine ⟨_, rfl, p', _, rm', en', 0, rfl, hW', hM.ok.closed, mW', by omega, fun L H5 Ls s5 hL => ⟨L, _, rfl, .inl (SqL.of hL), _, rfl, p', _, rfl, .inr (SqT.of (s5 _ _ hW'.web)), rfl, _, rfl, ite2 (fun _ => ?_) (fun _ => ?_)⟩⟩
      · have hc : f + 60000 * (i + 1) ≤ f + 200000 := Nat.add_le_add_left (Nat.le_trans (Nat.mul_le_mul_left 60000 (show i + 1 ≤ 3 from hi)) (by decide)) f
        exact ⟨_, rfl, k _ H5 _ _ ((k13.same s4).same s5) (((b3'.same s4).same s5).le hc) ⟨⟨p', rm', en', rfl, hW'.tm (Tm.of s5)⟩, hM.ok, hM.len, hM.doors⟩ hn0 hsz (sheet_cov vW hT)⟩
      · exact ⟨_, _, _, rfl, (k13.same s4).same s5, (b3'.same s4).same s5⟩
    · rintro σ H1 ⟨c3, c4, c5, rfl, k1, b1⟩
      have b1 : BoxOk H1 b (f + 60000 * 3) := b1
      have hc : f + 60000 * 3 ≤ f + 200000 := Nat.add_le_add_left (by decide) f
      refine ⟨_, rfl, k _ H1 W W.length k1 (b1.le hc) ⟨⟨p, rm, en, rfl, hW.tm k1.tm⟩, vW, rfl, mW.doors⟩ hpos (by omega) (Cov.refl vW.closed)⟩
abbrev N_law_any_web : List Str := ["_law_box_here", "_law_way_here", "_law_base", "_law_many"]
theorem sc_law_any_web : FnScope N_law_any_web ["_law_box_here"] (defScope s_law_any_web) := ⟨rfl, rfl, rfl, by decide +kernel, rfl, by decide +kernel, by decide +kernel⟩
def spAnyWeb : Sp := fun vs H Q _ => ∃ (b : Addr) (f : Nat), vs = [.ref b] ∧ BoxOk H b f ∧ f + 300000 ≤ 1000000000 ∧ ∀ v H' W n, BK b H H' → BoxOk H' b (f + 300000) → Made H' v W n → 0 < n → n ≤ 24 → Q v H'
theorem has_anyweb (B : Bt mg) (T : Top K mg "_law_any_web" s_law_any_web) (H_law_take_ : Has P w K mg base "_law_take" ["_law_box_here", "_law_many"] 1 spTake) (H_law_web_ : Has P w K mg base "_law_web" ["_law_box_here", "_law_many", "_law_most"] 3 spWeb)
    (H_law_ring_ : Has P w K mg base "_law_ring" ["_law_many"] 1 spRing) (H_law_covered_ : Has P w K mg base "_law_covered" ["_law_box_here", "_law_web_here", "_law_many"] 3 spCovered) : Has P w K mg base "_law_any_web" ["_law_box_here"] 4 spAnyWeb := by
  obtain ⟨f_law_take_, fd_law_take_, G_law_take_, m_law_take_, kp_law_take_, b_law_take_⟩ := H_law_take_.ex
  obtain ⟨f_law_web_, fd_law_web_, G_law_web_, m_law_web_, kp_law_web_, b_law_web_⟩ := H_law_web_.ex
  obtain ⟨f_law_ring_, fd_law_ring_, G_law_ring_, m_law_ring_, kp_law_ring_, b_law_ring_⟩ := H_law_ring_.ex
  obtain ⟨f_law_covered_, fd_law_covered_, G_law_covered_, m_law_covered_, kp_law_covered_, b_law_covered_⟩ := H_law_covered_.ex
  obtain ⟨f, fd, F, hm⟩ := T.ex
  refine ⟨f, fd, ?_, hm, F.kp, F.binds fun _ _ _ _ _ _ us hl => match us, hl with | [_], _ => rfl⟩
  refine F.ok sc_law_any_web (fun vs H Q E h => ?_) (fun cdv A outer s H vs Q E hr h => ?_)
  · obtain ⟨b, f, rfl, _⟩ := h
    rfl
  · obtain ⟨b, f, rfl, hb, hf, k⟩ := h
    refine ⟨_, (pss_cons (ps_set (i := 1) sc_law_any_web.nd rfl (Or.inl rfl) (pe_call G_law_take_ (hr.mono (by decide)) (by rfl) m_law_take_ kp_law_take_ b_law_take_ .nil pass0 (pa_cons (pv 0) (pa_cons pe_int pa_nil))))
      (pss_cons (ps_if (pt_cmpR op_eq (pv 1) pe_int (nomark _)) (pss_one (ps_ret (pe_call G_law_web_ (hr.mono (by decide)) (by rfl) m_law_web_ kp_law_web_ b_law_web_ .nil pass0 (pa_cons (pv 0) (pa_cons (pe_op op_add pe_int (pe_call G_law_take_ (hr.mono (by decide)) (by rfl) m_law_take_ kp_law_take_ b_law_take_ .nil pass0 (pa_cons (pv 0) (pa_cons pe_int pa_nil)))) (pa_cons (pe_op op_add pe_int (pe_call G_law_take_ (hr.mono (by decide)) (by rfl) m_law_take_ kp_law_take_ b_law_take_ .nil pass0 (pa_cons (pv 0) (pa_cons pe_int pa_nil)))) pa_nil)))))) pss_nil)
      (pss_cons (ps_if (pt_cmpR op_lt (pv 1) pe_int (nomark _)) (pss_one (ps_ret (pe_call G_law_web_ (hr.mono (by decide)) (by rfl) m_law_web_ kp_law_web_ b_law_web_ .nil pass0 (pa_cons (pv 0) (pa_cons (pe_op op_add pe_int (pe_call G_law_take_ (hr.mono (by decide)) (by rfl) m_law_take_ kp_law_take_ b_law_take_ .nil pass0 (pa_cons (pv 0) (pa_cons pe_int pa_nil)))) (pa_cons (pe_op op_add pe_int (pe_call G_law_take_ (hr.mono (by decide)) (by rfl) m_law_take_ kp_law_take_ b_law_take_ .nil pass0 (pa_cons (pv 0) (pa_cons pe_int pa_nil)))) pa_nil)))))) pss_nil)
      (pss_cons (ps_if (pt_cmpR op_eq (pv 1) pe_int (nomark _)) (pss_one (ps_ret (pe_call G_law_ring_ (hr.mono (by decide)) (by rfl) m_law_ring_ kp_law_ring_ b_law_ring_ .nil pass0 (pa_cons (pe_op op_add pe_int (pe_call G_law_take_ (hr.mono (by decide)) (by rfl) m_law_take_ kp_law_take_ b_law_take_ .nil pass0 (pa_cons (pv 0) (pa_cons pe_int pa_nil)))) pa_nil)))) pss_nil)
      (pss_cons (ps_set (i := 2) sc_law_any_web.nd rfl (Or.inl rfl) (pe_call G_law_web_ (hr.mono (by decide)) (by rfl) m_law_web_ kp_law_web_ b_law_web_ .nil pass0 (pa_cons (pv 0) (pa_cons (pe_op op_add pe_int (pe_call G_law_take_ (hr.mono (by decide)) (by rfl) m_law_take_ kp_law_take_ b_law_take_ .nil pass0 (pa_cons (pv 0) (pa_cons pe_int pa_nil)))) (pa_cons (pe_op op_add pe_int (pe_call G_law_take_ (hr.mono (by decide)) (by rfl) m_law_take_ kp_law_take_ b_law_take_ .nil pass0 (pa_cons (pv 0) (pa_cons pe_int pa_nil)))) pa_nil)))))
      (pss_cons (ps_set (i := 3) sc_law_any_web.nd rfl (Or.inl rfl) (pe_op op_add pe_int (pe_call G_law_take_ (hr.mono (by decide)) (by rfl) m_law_take_ kp_law_take_ b_law_take_ .nil pass0 (pa_cons (pv 0) (pa_cons (pe_ix (k_ixl K rfl) (pe_lst (pa_cons pe_int (pa_cons pe_int (pa_cons pe_int (pa_cons pe_int pa_nil))))) (pe_op op_sub (pe_callB (k_len K rfl) (by rfl) B.len_ PySem.boot_len (pa_cons (pv 2) pa_nil)) pe_int) (fun _ _ => rfl)) pa_nil)))))
      (pss_one (ps_ret (pe_call G_law_covered_ (hr.mono (by decide)) (by rfl) m_law_covered_ kp_law_covered_ b_law_covered_ .nil pass0 (pa_cons (pv 0) (pa_cons (pv 2) (pa_cons (pv 3) pa_nil)))))))))))), ?_⟩
    refine ⟨_, rfl, b, 8, f, rfl, hb, by omega, by decide, by decide, fun wy H1 hwy k1 b1 => ?_⟩
    refine ⟨_, rfl, rfl, _, rfl, ite2 (fun _ => ?_) (fun _ => ?_)⟩
    · refine ⟨_, rfl, _, rfl, b, 17, f + 1, rfl, b1, by omega, by decide, by decide, fun r H2 hr2 k2 b2 => ⟨_, _, rfl, rfl, _, rfl, b, 4, f + 1 + 1, rfl, b2, by omega, by decide, by decide, fun u H3 hu k3 b3 => ⟨_, _, rfl, rfl, b, 8 + r, 3 + u, f + 1 + 1 + 1, rfl, b3, by omega, by omega, by omega, by omega, fun v H4 W k4 b4 hM => ?_⟩⟩⟩
      exact k v H4 W _ (((k1.trans k2).trans k3).trans k4) (b4.le (by omega)) hM (by omega) (by omega)
    refine ⟨_, rfl, _, _, rfl, rfl, _, rfl, ite2 (fun _ => ?_) (fun _ => ?_)⟩
    · refine ⟨_, rfl, _, rfl, b, 7, f + 1, rfl, b1, by omega, by decide, by decide, fun r H2 hr2 k2 b2 => ⟨_, _, rfl, rfl, _, rfl, b, 3, f + 1 + 1, rfl, b2, by omega, by decide, by decide, fun u H3 hu k3 b3 => ⟨_, _, rfl, rfl, b, 1 + r, 2 + u, f + 1 + 1 + 1, rfl, b3, by omega, by omega, by omega, by omega, fun v H4 W k4 b4 hM => ?_⟩⟩⟩
      exact k v H4 W _ (((k1.trans k2).trans k3).trans k4) (b4.le (by omega)) hM (by omega) (by omega)
    refine ⟨_, rfl, rfl, _, rfl, ite2 (fun _ => ?_) (fun _ => ?_)⟩
    · refine ⟨_, rfl, b, 12, f + 1, rfl, b1, by omega, by decide, by decide, fun r H2 hr2 k2 b2 => ⟨_, _, rfl, rfl, 1 + r, rfl, by omega, by omega, fun v H4 W s4 hM => ?_⟩⟩
      exact k v H4 W _ ((k1.trans k2).same s4) ((b2.same s4).le (by omega)) hM (by omega) (by omega)
    refine ⟨_, rfl, _, rfl, b, 4, f + 1, rfl, b1, by omega, by decide, by decide, fun r H2 hr2 k2 b2 => ⟨_, _, rfl, rfl, _, rfl, b, 2, f + 1 + 1, rfl, b2, by omega, by decide, by decide, fun u H3 hu k3 b3 => ⟨_, _, rfl, rfl, b, 1 + r, 2 + u, f + 1 + 1 + 1, rfl, b3, by omega, by omega, by omega, by omega, fun v H4 W k4 b4 hM => ?_⟩⟩⟩
    obtain ⟨p, rm, en, rfl, hW⟩ := hM.web
    have hlen := hM.len
    have k14 := ((k1.trans k2).trans k3).trans k4
    have mW : Mid W := ⟨by omega, hM.doors⟩
    refine ⟨_, rfl, sz1000 (by show 4 ≤ 100000; decide), fun c hc => ?_⟩
    have s5 := same_new (o := .lst [L2.V.int 5, .int 5, .int 5, .int 3]) hc
    obtain ⟨mm, hmm, hat⟩ : ∃ mm : Nat, (0 < mm ∧ (1 + mm) * W.length ≤ 24) ∧ atI [L2.V.int 5, .int 5, .int 5, .int 3] (((roomsV W rm).length : Int) - 1) = some (iv mm) := by
      rw [roomsV_len, hlen]
      have : r = 0 ∨ r = 1 ∨ r = 2 ∨ r = 3 := by omega
      rcases this with rfl | rfl | rfl | rfl
      · exact ⟨5, by decide, rfl⟩
      · exact ⟨5, by decide, rfl⟩
      · exact ⟨5, by decide, rfl⟩
      · exact ⟨3, by decide, rfl⟩
    have hmm24 : mm ≤ 24 := by
      have := Nat.mul_le_mul_left (1 + mm) (show 1 ≤ W.length by omega)
      omega
    refine ⟨_, rfl, p, _, rfl, .inr (SqT.of (s5 _ _ hW.web)), _, _, rfl, rfl, c, _, _, _, rfl, rfl, SqL.of upd_same, hat, b, mm, f + 1 + 1 + 1 + 400, rfl, b4.same s5, by omega, hmm.1, by omega, fun y H6 hy k6 b6 => ⟨_, _, rfl, rfl, ?_⟩⟩
    have k16 := (k14.same s5).trans k6
    have hm2 : (2 + y) * W.length ≤ 24 := Nat.le_trans (Nat.mul_le_mul_right _ (by omega)) hmm.2
    refine ⟨_, rfl, _, rfl, _, rfl, b, p, W, rm, en, 2 + y, f + 1 + 1 + 1 + 400 + 1, rfl, b6, (hW.tm (Tm.of s5)).tm k6.tm, hM.ok, mW, by omega, by omega, hm2, by omega, fun v H7 W' n k7 b7 hM7 h0 h24 _ => ?_⟩
    exact k v H7 W' n (k16.trans k7) (b7.le (by omega)) hM7 h0 h24
end
end K18
namespace K18
open PySem PySem.Spec PyProof.Rows L2
section
variable {P : Program} {w : World} {K : PySem.W.Frag} {mg : Str → Option Value} {base : Heap}
/-! _law_seen_alike, _law_third, _law_goes_with -/
theorem iteDT {c : Prop} [Decidable c] {A B : Prop} (hc : c) (h : A) : if decide c = true then A else B := by rw [decide_eq_true hc]; exact iteT h
theorem iteDF {c : Prop} [Decidable c] {A B : Prop} (hc : ¬ c) (h : B) : if decide c = true then A else B := by rw [decide_eq_false hc]; exact iteF h
abbrev N_law_seen_alike : List Str := ["_law_box_here", "_law_one", "_law_a", "_law_other", "_law_b", "_law_turn_here", "_law_way_here"]
theorem sc_law_seen_alike : FnScope N_law_seen_alike ["_law_box_here", "_law_one", "_law_a", "_law_other", "_law_b"] (defScope s_law_seen_alike) := ⟨rfl, rfl, rfl, by decide +kernel, rfl, by decide +kernel, by decide +kernel⟩
def spSeenAlike : Sp := fun vs H Q _ => ∃ (b p : Addr) (W : Web) (rm : Nat → Addr) (en : Nat → Nat → Addr) (x : Nat) (p' : Addr) (V : Web) (rm' : Nat → Addr) (en' : Nat → Nat → Addr) (y f : Nat), vs = [.ref b, .ref p, iv x, .ref p', iv y] ∧ BoxOk H b f ∧ TwoH H p W rm en x p' V rm' en' y ∧ (∀ k, Lk W V none none k x y) ∧ f + 1000 ≤ 1000000000 ∧
  ∀ H', BK b H H' → BoxOk H' b (f + 1000) → Q (.bl true) H'
theorem has_seenalike (B : Bt mg) (T : Top K mg "_law_seen_alike" s_law_seen_alike) (H_law_any_way_ : Has P w K mg base "_law_any_way" ["_law_box_here", "_law_web_here", "_law_room"] 3 spAnyWay) (H_seen_ : Has P w K mg base "seen" ["web", "room", "way"] 1 spSeen) :
    Has P w K mg base "_law_seen_alike" ["_law_box_here", "_law_one", "_law_a", "_law_other", "_law_b"] 4 spSeenAlike := by
  obtain ⟨f_law_any_way_, fd_law_any_way_, G_law_any_way_, m_law_any_way_, kp_law_any_way_, b_law_any_way_⟩ := H_law_any_way_.ex
  obtain ⟨f_seen_, fd_seen_, G_seen_, m_seen_, kp_seen_, b_seen_⟩ := H_seen_.ex
  obtain ⟨f, fd, F, hm⟩ := T.ex
  refine ⟨f, fd, ?_, hm, F.kp, F.binds fun _ _ _ _ _ _ us hl => match us, hl with | [_, _, _, _, _], _ => rfl⟩
  refine F.ok sc_law_seen_alike (fun vs H Q E h => ?_) (fun cdv A outer s H vs Q E hr h => ?_)
  · obtain ⟨b, p, W, rm, en, x, p', V, rm', en', y, f, rfl, _⟩ := h
    rfl
  · obtain ⟨b, p, W, rm, en, x, p', V, rm', en', y, f, rfl, hb, h2, hlk, hf, k⟩ := h
    refine ⟨_, (pss_cons (ps_for PassesOwn.never rfl (pi_range1 (by rfl) B.range_ (pa_cons pe_int pa_nil)) (pg_name (i := 5) sc_law_seen_alike.nd rfl (Or.inl rfl))
      (pss_cons (ps_set (i := 6) sc_law_seen_alike.nd rfl (Or.inl rfl) (pe_call G_law_any_way_ (hr.mono (by decide)) (by rfl) m_law_any_way_ kp_law_any_way_ b_law_any_way_ .nil pass0 (pa_cons (pv 0) (pa_cons (pv 1) (pa_cons (pv 2) pa_nil)))))
      (pss_one (ps_if (pt_cmpR (k_neD K rfl hr.units) (pe_call G_seen_ (hr.mono (by decide)) (by rfl) m_seen_ kp_seen_ b_seen_ .nil pass0 (pa_cons (pv 1) (pa_cons (pv 2) (pa_cons (pv 6) pa_nil)))) (pe_call G_seen_ (hr.mono (by decide)) (by rfl) m_seen_ kp_seen_ b_seen_ .nil pass0 (pa_cons (pv 3) (pa_cons (pv 4) (pa_cons (pv 6) pa_nil)))) (nomark _)) (pss_one (ps_ret pe_bl)) pss_nil))))
      (pss_one (ps_ret pe_bl))), ?_⟩
    refine ⟨3, rfl, by decide, by decide, for_range (lo := 0) (n := _) (fun i σ H' => ∃ (c5 c6 : Option L2.V), σ = [some (.ref b), some (.ref p), some (iv x), some (.ref p'), some (iv y), c5, c6] ∧ BK b H H' ∧ BoxOk H' b (f + 300 * i))
      ⟨none, none, rfl, BK.refl hb.some, hb⟩ ?_ ?_⟩
    · rintro i σ H1 hi ⟨c5, c6, rfl, k1, b1⟩
      have hi : i < 3 := hi
      have h21 := h2.tm k1.tm
      refine ⟨_, rfl, _, rfl, _, rfl, b, p, W, rm, en, x, f + 300 * i, rfl, b1, h21.hW, h2.cW, h2.smW, h2.ha, by omega, fun q H2 way k2 b2 hq hwl => ?_⟩
      have h22 := h21.tm k2.tm
      refine ⟨_, rfl, _, rfl, _, rfl, p, W, rm, en, x, q, way, rfl, h22.hW, h2.cW, h2.ha, hq, hwl, fun v1 H3 s3 hv1 => ?_⟩
      have h23 := h22.tm (Tm.of s3)
      refine ⟨_, rfl, _, rfl, _, rfl, p', V, rm', en', y, q, way, rfl, h23.hV, h2.cV, h2.hb, s3 _ _ hq, hwl, fun v2 H4 s4 hv2 => ?_⟩
      refine ⟨_, _, dp_seen (hv1.tm (Tm.of s4)), dp_seen hv2, seen_shaped _, seen_shaped _, _, rfl, ?_⟩
      rw [seen_eqv]
      refine iteNT ((hlk way.length).seenOf (Nat.le_refl _)) ?_
      exact ⟨_, _, rfl, ((k1.trans k2).same s3).same s4, ((b2.same s3).same s4).le (by omega)⟩
    · rintro σ H1 ⟨c5, c6, rfl, k1, b1⟩
      exact k H1 k1 (b1.le (Nat.add_le_add_left (by decide) f))
/-! third -/
theorem two_first {Z L : List Nat} {m : Nat} (h : L.Perm Z) (srt : L.Pairwise (· ≤ ·)) (h1 : ∀ z ∈ Z, m ≤ z) (h2 : 2 ≤ Z.count m) : ∃ r, L = m :: m :: r := by
  have hc : 2 ≤ L.count m := by rw [h.count_eq]; exact h2
  have hm : ∀ z ∈ L, m ≤ z := fun z hz => h1 z (h.mem_iff.mp hz)
  cases L with
  | nil => simp at hc
  | cons x L =>
    have hx : x = m := by
      have hmem : m ∈ x :: L := List.count_pos_iff.mp (by omega)
      have h3 := hm x List.mem_cons_self
      rcases List.mem_cons.mp hmem with e | e
      · exact e.symm
      · have := (List.pairwise_cons.mp srt).1 m e
        omega
    subst hx
    rw [List.count_cons_self] at hc
    cases L with
    | nil => simp at hc
    | cons y L =>
      have hy : y = x := by
        have hmem : x ∈ y :: L := List.count_pos_iff.mp (by omega)
        have h3 := hm y (List.mem_cons_of_mem _ List.mem_cons_self)
        rcases List.mem_cons.mp hmem with e | e
        · exact e.symm
        · have := (List.pairwise_cons.mp (List.pairwise_cons.mp srt).2).1 x e
          omega
      subst hy
      exact ⟨L, rfl⟩
/-- the longer one is not alone -/
def Tri (a b c : Option (List Nat)) : Prop := ∀ u, a = some u → (∃ x, b = some x ∧ x.length ≤ u.length) ∨ ∃ x, c = some x ∧ x.length ≤ u.length
theorem tri_swap {a b c : Option (List Nat)} (t : Tri a b c) : Tri a c b := fun u hu => (t u hu).symm
def szOf (a : Option (List Nat)) : Nat := (a.map List.length).getD 0
theorem third_plain {a b c : Option (List Nat)} {D : Nat → Option (List Nat)} (h0 : D 0 = a) (h1 : D 1 = b) (h2 : D 2 = c) (t1 : Tri a b c) (t2 : Tri b a c) (t3 : Tri c a b) {L : List Nat} (h : L.Perm (((List.range 3).filter fun j => (D j).isSome).map fun j => szOf (D j))) (srt : L.Pairwise (· ≤ ·)) :
    L = [] ∨ ∃ m r, L = m :: m :: r := by
  have hz : ((List.range 3).filter fun j => (D j).isSome).map (fun j => szOf (D j)) = (if a.isSome then [szOf a] else []) ++ (if b.isSome then [szOf b] else []) ++ (if c.isSome then [szOf c] else []) := by
    show (([0, 1, 2] : List Nat).filter fun j => (D j).isSome).map (fun j => szOf (D j)) = _
    subst h0; subst h1; subst h2
    cases e0 : D 0 <;> cases e1 : D 1 <;> cases e2 : D 2 <;> simp [e0, e1, e2, List.filter]
  rw [hz] at h
  cases a with
  | none =>
    cases b with
    | none =>
      cases c with
      | none => exact .inl (List.Perm.eq_nil h)
      | some z => rcases t3 z rfl with ⟨x, e, _⟩ | ⟨x, e, _⟩ <;> cases e
    | some y =>
      cases c with
      | none => rcases t2 y rfl with ⟨x, e, _⟩ | ⟨x, e, _⟩ <;> cases e
      | some z =>
        have e1 : z.length ≤ y.length := by rcases t2 y rfl with ⟨x, e, l⟩ | ⟨x, e, l⟩ <;> cases e; exact l
        have e2 : y.length ≤ z.length := by rcases t3 z rfl with ⟨x, e, l⟩ | ⟨x, e, l⟩ <;> cases e; exact l
        have e3 : y.length = z.length := by omega
        refine .inr ⟨z.length, two_first h srt (fun w hw => ?_) ?_⟩ <;> simp [szOf, e3] at *
        exact Nat.le_of_eq hw.symm
  | some x =>
    cases b with
    | none =>
      cases c with
      | none => rcases t1 x rfl with ⟨x, e, _⟩ | ⟨x, e, _⟩ <;> cases e
      | some z =>
        have e1 : z.length ≤ x.length := by rcases t1 x rfl with ⟨x, e, l⟩ | ⟨x, e, l⟩ <;> cases e; exact l
        have e2 : x.length ≤ z.length := by rcases t3 z rfl with ⟨x, e, l⟩ | ⟨x, e, l⟩ <;> cases e; exact l
        have e3 : x.length = z.length := by omega
        refine .inr ⟨z.length, two_first h srt (fun w hw => ?_) ?_⟩ <;> simp [szOf, e3] at *
        exact Nat.le_of_eq hw.symm
    | some y =>
      cases c with
      | none =>
        have e1 : y.length ≤ x.length := by rcases t1 x rfl with ⟨x, e, l⟩ | ⟨x, e, l⟩ <;> cases e; exact l
        have e2 : x.length ≤ y.length := by rcases t2 y rfl with ⟨x, e, l⟩ | ⟨x, e, l⟩ <;> cases e; exact l
        have e3 : x.length = y.length := by omega
        refine .inr ⟨y.length, two_first h srt (fun w hw => ?_) ?_⟩ <;> simp [szOf, e3] at *
        exact Nat.le_of_eq hw.symm
      | some z =>
        have e1 : y.length ≤ x.length ∨ z.length ≤ x.length := by
          rcases t1 x rfl with ⟨x, e, l⟩ | ⟨x, e, l⟩ <;> cases e
          · exact .inl l
          · exact .inr l
        have e2 : x.length ≤ y.length ∨ z.length ≤ y.length := by
          rcases t2 y rfl with ⟨x, e, l⟩ | ⟨x, e, l⟩ <;> cases e
          · exact .inl l
          · exact .inr l
        have e3 : x.length ≤ z.length ∨ y.length ≤ z.length := by
          rcases t3 z rfl with ⟨x, e, l⟩ | ⟨x, e, l⟩ <;> cases e
          · exact .inl l
          · exact .inr l
        have h : L.Perm [x.length, y.length, z.length] := h
        have hk : ∀ m, m ≤ x.length → m ≤ y.length → m ≤ z.length → ∀ w ∈ [x.length, y.length, z.length], m ≤ w := fun m a b c w hw => by
          simp only [List.mem_cons, List.not_mem_nil, or_false] at hw
          omega
        by_cases c1 : x.length = y.length
        · by_cases c2 : x.length ≤ z.length
          · exact .inr ⟨x.length, two_first h srt (hk _ (Nat.le_refl _) (by omega) c2) (by simp [c1])⟩
          · omega
        · by_cases c2 : x.length = z.length
          · exact .inr ⟨x.length, two_first h srt (hk _ (Nat.le_refl _) (by omega) (by omega)) (by simp [c2])⟩
          · exact .inr ⟨y.length, two_first h srt (hk _ (by omega) (Nat.le_refl _) (by omega)) (by
              have : y.length = z.length := by omega
              rw [this]
              exact Nat.le_trans (show 2 ≤ List.count z.length [z.length, z.length] by simp) List.count_le_count_cons)⟩
theorem nats_of : ∀ {ns : List Int}, (∀ z ∈ ns, ∃ n : Nat, z = (n : Int)) → ∃ L : List Nat, ns = L.map fun n : Nat => (n : Int)
  | [], _ => ⟨[], rfl⟩
  | x :: ns, h => by
    obtain ⟨n, rfl⟩ := h x List.mem_cons_self
    obtain ⟨L, rfl⟩ := nats_of (ns := ns) fun z hz => h z (List.mem_cons_of_mem _ hz)
    exact ⟨n :: L, rfl⟩
theorem told_tri {W : Web} (cW : Closed W) {x y z : Nat} (hx : x < W.length) (hy : y < W.length) (hz : z < W.length) {a b c : Option (List Nat)} (ha : a = lp W W none none x y) (hb : b = lp W W none none x z ∨ b = lp W W none none z x) (hc : c = lp W W none none z y ∨ c = lp W W none none y z) : Tri a b c := by
  intro u hu
  have e1 : b = lp W W none none x z := by rcases hb with e | e <;> rw [e]; exact lp_sw (s := none) (t := none) x z
  have e2 : c = lp W W none none z y := by rcases hc with e | e <;> rw [e]; exact lp_sw (s := none) (t := none) z y
  have ta := lp_told (s := none) (t := none) cW cW hx hy
  have tb := lp_told (s := none) (t := none) cW cW hx hz
  have tc := lp_told (s := none) (t := none) cW cW hz hy
  rw [← ha, hu] at ta
  rw [← e1] at tb
  rw [← e2] at tc
  have h1 : Lk W W none none u.length x z → ¬ Lk W W none none u.length z y := fun p q => ta.1 (p.trans q)
  cases b with
  | some v =>
    by_cases l : v.length ≤ u.length
    · exact .inl ⟨v, rfl, l⟩
    · have p := tb.2.1 u.length (by omega)
      cases c with
      | none => exact (h1 p (tc u.length)).elim
      | some t =>
        by_cases l2 : t.length ≤ u.length
        · exact .inr ⟨t, rfl, l2⟩
        · exact (h1 p (tc.2.1 u.length (by omega))).elim
  | none =>
    have p := tb u.length
    cases c with
    | none => exact (h1 p (tc u.length)).elim
    | some t =>
      by_cases l2 : t.length ≤ u.length
      · exact .inr ⟨t, rfl, l2⟩
      · exact (h1 p (tc.2.1 u.length (by omega))).elim
def prevOf (j : Nat) : Nat := if j = 0 then 2 else j - 1
abbrev N_law_third : List Str := ["_law_web_here", "_law_some", "_law_ways", "_law_sizes", "_law_k", "_law_way_here"]
theorem sc_law_third : FnScope N_law_third ["_law_web_here", "_law_some"] (defScope s_law_third) := ⟨rfl, rfl, rfl, by decide +kernel, rfl, by decide +kernel, by decide +kernel⟩
def spThird : Sp := fun vs H Q _ => ∃ (p sl : Addr) (W : Web) (rm : Nat → Addr) (en : Nat → Nat → Addr) (L : List Nat), vs = [.ref p, .ref sl] ∧ WebH H p W rm en ∧ Closed W ∧ Small W ∧ W.length * W.length ≤ 50000 ∧ H sl = some (.lst (L.map iv)) ∧ L.length = 3 ∧ (∀ x ∈ L, x < W.length) ∧ ∀ H', Same H H' → Q (.bl true) H'
theorem has_third (B : Bt mg) (T : Top K mg "_law_third" s_law_third) (H_parting_ : Has P w K mg base "parting" ["one", "a", "other", "b"] 3 spParting) : Has P w K mg base "_law_third" ["_law_web_here", "_law_some"] 4 spThird := by
  obtain ⟨f_parting_, fd_parting_, G_parting_, m_parting_, kp_parting_, b_parting_⟩ := H_parting_.ex
  obtain ⟨f, fd, F, hm⟩ := T.ex
  refine ⟨f, fd, ?_, hm, F.kp, F.binds fun _ _ _ _ _ _ us hl => match us, hl with | [_, _], _ => rfl⟩
  refine F.ok sc_law_third (fun vs H Q E h => ?_) (fun cdv A outer s H vs Q E hr h => ?_)
  · obtain ⟨p, sl, W, rm, en, L, rfl, _⟩ := h
    rfl
  · obtain ⟨p, sl, W, rm, en, L, rfl, hW, cW, smW, hN, hsl, hL3, hLx, k⟩ := h
    refine ⟨_, (pss_cons (ps_setLc (i := 2) (own := [("_law_k", 4)]) (g := gName 4) rfl sc_law_third.nd rfl rfl (sw_true rfl rfl rfl (by decide +kernel)) (pi_range1 (by rfl) B.range_ (pa_cons pe_int pa_nil)) (blkOk_by (N := N_law_third) (sc := defScope s_law_third) (by decide +kernel)) (fun _ _ _ _ _ => (pg_name (i := 4) sc_law_third.nd rfl (Or.inl rfl))) (fun _ _ _ _ _ => pts_nil) (fun _ _ _ _ _ => (pe_call G_parting_ (hr.mono (by decide)) (by rfl) m_parting_ kp_parting_ b_parting_ .nil pass0 (pa_cons (pv 0) (pa_cons (pe_ix (k_ixl K rfl) (pv 1) (pv 4) (fun _ _ => rfl)) (pa_cons (pv 0) (pa_cons (pe_ix (k_ixl K rfl) (pv 1) (pe_op op_sub (pv 4) pe_int) (fun _ _ => rfl)) pa_nil)))))))
      (pss_cons (ps_set (i := 3) sc_law_third.nd rfl (Or.inl rfl) (pe_callB (k_sorted K rfl) (by rfl) B.sorted_ (by decide +kernel) (pa_cons (pe_lc (own := [("_law_way_here", 5)]) (g := gName 5) rfl sc_law_third.nd (pi_list (pv 2)) (blkOk_by (N := N_law_third) (sc := defScope s_law_third) (by decide +kernel)) (fun _ _ _ _ _ => (pg_name (i := 5) sc_law_third.nd rfl (Or.inl rfl))) (fun _ _ _ _ _ => (pts_one (pt_cmpR op_notN (pv 5) pe_non (nomark _)))) (fun _ _ _ _ _ => (pe_callB (k_len K rfl) (by rfl) B.len_ PySem.boot_len (pa_cons (pv 5) pa_nil)))) pa_nil)))
      (pss_one (ps_ret (pe_and (pe_cmpR op_ne (pe_callB (k_len K rfl) (by rfl) B.len_ PySem.boot_len (pa_cons (pv 3) pa_nil)) pe_int (nomark _)) (pe_one (pe_or (pe_cmpR (k_eqD K rfl hr.units) (pv 3) (pe_lst pa_nil) (nomark _)) (pe_one (pe_cmpR op_eq (pe_ix (k_ixl K rfl) (pv 3) pe_int (fun _ _ => rfl)) (pe_ix (k_ixl K rfl) (pv 3) pe_int (fun _ _ => rfl)) (nomark _)))))))))), ?_⟩
    have hin : ∀ j, j < 3 → nn L j < W.length := fun j hj => hLx _ (List.mem_of_getElem? (nn_get (by omega)))
    have hprev : ∀ j, j < 3 → prevOf j < 3 := fun j hj => by unfold prevOf; split <;> omega
    refine ⟨3, rfl, by decide, by decide, fun D hD => lcP walk_range (fun j H z => OWayV H z (lp W W none none (nn L j) (nn L (prevOf j)))) hD (by decide) (fun _ _ => trivial) (fun j z H' H'' hA r k => r.tm (r_tm hA k)) (fun i Hi x Hx y => y_fn y) ?_ ?_⟩
    · rintro j v Hi Hx Qc hj s1 _ ⟨rfl, rfl⟩ q2
      have hj : j < 3 := hj
      show gName 4 (L2.V.int (0 + (j : Int))) _ _ _
      rw [show (0 : Int) + (j : Int) = (j : Int) from Int.zero_add _]
      have hW1 := hW.tm (Tm.of s1)
      have at1 : atI (L.map iv) (j : Int) = some (iv (nn L j)) := nn_at (by omega)
      have at2 : atI (L.map iv) ((j : Int) - 1) = some (iv (nn L (prevOf j))) := by
        have : j = 0 ∨ j = 1 ∨ j = 2 := by omega
        rcases this with rfl | rfl | rfl
        · obtain ⟨L1, x, e⟩ : ∃ L1 x, L = L1 ++ [x] := ⟨L.dropLast, L.getLast (by intro z; subst z; simp at hL3), by rw [List.dropLast_concat_getLast]⟩
          have hl1 : L1.length = 2 := by rw [e, List.length_append] at hL3; exact Nat.succ.inj hL3
          have e2 : nn L 2 = x := nn_of (by rw [e, ← hl1]; simp)
          show atI (L.map iv) (-1) = some (iv (nn L 2))
          rw [e2, e, List.map_append]
          exact atI_last _ _
        · exact nn_at (i := 0) (by omega)
        · exact nn_at (i := 1) (by omega)
      refine ⟨rfl, _, rfl, _, rfl, _, rfl, sl, _, _, _, rfl, rfl, SqL.of (s1 _ _ hsl), at1, _, rfl, _, rfl, _, rfl, _, _, rfl, rfl, sl, _, _, _, rfl, rfl, SqL.of (s1 _ _ hsl), at2, p, W, rm, en, nn L j, p, W, rm, en, nn L (prevOf j), rfl, ⟨hW1, hW1, cW, cW, smW, smW, hN, hin j hj, hin _ (hprev j hj)⟩, fun v H' s hv => q2 v H' s hv⟩
    intro H1 acc s1 hA hlen hval
    have hlen : acc.length = 3 := hlen
    obtain ⟨Df, hDf⟩ : ∃ Df : Nat → Option (List Nat), Df = fun j => lp W W none none (nn L j) (nn L (prevOf j)) := ⟨_, rfl⟩
    have hval' : ∀ (j : Nat) (z : L2.V), acc[j]? = some z → OWayV H1 z (Df j) := fun j z hz => by rw [hDf]; exact hval j z hz
    have hlw : ∀ j u, j < 3 → Df j = some u → u.length ≤ 50000 := fun j u hj e => by
      have t := lp_told (s := none) (t := none) cW cW (hin j hj) (hin _ (hprev j hj))
      have e2 : lp W W none none (nn L j) (nn L (prevOf j)) = some u := by rw [← e, hDf]
      rw [e2] at t
      exact Nat.le_trans t.2.2.2 hN
    refine ⟨_, rfl, D, rfl, ⟨_, SqL.of hA⟩, fun E hE => lcFlt walk_list (fun j => (Df j).isSome) (fun j => szOf (Df j)) hE (by omega) (fun H' s => SqL.of (s _ _ hA)) (fun i Hi x Hx y => y_at y) ?_ ?_⟩
    · rintro j v Hi Hx Qc Qn hj s2 ⟨rfl, hv⟩ q1 q2
      have ho := (hval' j v hv).tm (Tm.of s2)
      refine ⟨rfl, _, rfl, rfl, _, rfl, ?_⟩
      cases e : Df j with
      | none =>
        rw [e] at ho q2
        have ho : v = .non := ho
        subst ho
        exact iteNT rfl (q2 rfl _ (Same.refl _))
      | some u =>
        rw [e] at ho q1
        obtain ⟨q, rfl, hq⟩ := ho
        refine iteNS' (fun z => nomatch z) ⟨_, rfl, q, _, rfl, .inr (SqT.of hq), ?_⟩
        rw [List.length_map]
        exact q1 rfl _ (Same.refl _)
    intro H2 s2 hE2
    rw [hlen] at hE2
    have s12 := s1.trans s2
    obtain ⟨Z, hZ⟩ : ∃ Z, ((List.range 3).filter fun j => (Df j).isSome).map (fun j => szOf (Df j)) = Z := ⟨_, rfl⟩
    rw [hZ] at hE2
    have hZl : Z.length ≤ 3 := by
      rw [← hZ, List.length_map]
      exact List.length_filter_le _ _
    refine ⟨E, Z.map fun n : Nat => (n : Int), rfl, SqL.of (by rw [hE2, List.map_map]; rfl), by rw [List.length_map]; omega, fun ns' sp hperm hsrt hsp => ?_⟩
    obtain ⟨M, rfl⟩ := nats_of (ns := ns') fun z hz => by
      obtain ⟨n, _, e⟩ := List.mem_map.mp (hperm.mem_iff.mp hz)
      exact ⟨n, e.symm⟩
    have hpM : M.Perm Z := by
      have h := hperm.map Int.toNat
      rw [List.map_map, List.map_map] at h
      have e : ∀ l : List Nat, l.map (Int.toNat ∘ fun n : Nat => (n : Int)) = l := fun l => by
        have : (Int.toNat ∘ fun n : Nat => (n : Int)) = id := by funext n; simp
        rw [this, List.map_id]
      rw [e, e] at h
      exact h
    have hsM : M.Pairwise (· ≤ ·) := (List.pairwise_map.mp hsrt).imp fun h => by omega
    have hM : M = [] ∨ ∃ m r, M = m :: m :: r := by
      rw [← hZ] at hpM
      have c0 := hin 0 (by decide)
      have c1 := hin 1 (by decide)
      have c2 := hin 2 (by decide)
      have d0 : Df 0 = lp W W none none (nn L 0) (nn L 2) := by rw [hDf]; rfl
      have d1 : Df 1 = lp W W none none (nn L 1) (nn L 0) := by rw [hDf]; rfl
      have d2 : Df 2 = lp W W none none (nn L 2) (nn L 1) := by rw [hDf]; rfl
      exact third_plain rfl rfl rfl (told_tri cW c0 c2 c1 d0 (.inr d1) (.inr d2)) (tri_swap (told_tri cW c1 c0 c2 d1 (.inr d2) (.inr d0))) (told_tri cW c2 c1 c0 d2 (.inr d0) (.inr d1)) hpM hsM
    have hsp2 : upd H2 sp (.lst ((M.map fun n : Nat => (n : Int)).map L2.V.int)) sp = some (.lst (M.map iv)) := by rw [upd_same, List.map_map]; rfl
    have s3 := same_upd (o := .lst ((M.map fun n : Nat => (n : Int)).map L2.V.int)) s12 hsp
    generalize upd H2 sp (.lst ((M.map fun n : Nat => (n : Int)).map L2.V.int)) = H3 at *
    refine ⟨_, rfl, sp, _, rfl, .inl (SqL.of hsp2), rfl, _, rfl, ?_⟩
    rw [List.length_map]
    rcases hM with rfl | ⟨m, r, rfl⟩
    · refine iteNS' (fun z => by have := L2.V.int.inj z; exact absurd this (by decide)) ⟨_, rfl, Nat.zero_le _, fun z hz => ⟨_, _, .lst (SqL.of (same_new hz _ _ hsp2)) (dp_ints []), .lst (SqL.of upd_same) (dp_ints []), list_shaped [], list_shaped [], _, rfl, ?_⟩⟩
      rw [list_eqv]
      exact iteDT rfl (k _ (same_upd s3 hz))
    · refine iteNS' (fun z => by have := L2.V.int.inj z; simp at this; omega) ⟨_, rfl, Nat.zero_le _, fun z hz => ⟨_, _, .lst (SqL.of (same_new hz _ _ hsp2)) (dp_ints (m :: m :: r)), .lst (SqL.of upd_same) (dp_ints []), list_shaped _, list_shaped [], _, rfl, ?_⟩⟩
      rw [list_eqv]
      refine iteDF (fun z => nomatch z) ?_
      have hsp3 := same_new (o := .lst []) hz _ _ hsp2
      refine ⟨_, rfl, sp, _, _, _, rfl, rfl, SqL.of hsp3, atI_nat (j := 0) rfl, _, rfl, sp, _, _, _, rfl, rfl, SqL.of hsp3, atI_nat (j := 1) rfl, rfl, ?_⟩
      have e : decide (iv m = iv m) = true := decide_eq_true rfl
      show Q (.bl (decide (iv m = iv m))) _
      rw [e]
      exact k _ (same_upd s3 hz)
abbrev N_law_goes_with : List Str := ["_law_box_here", "_law_one", "_law_a", "_law_other", "_law_b", "_law_pairs"]
theorem sc_law_goes_with : FnScope N_law_goes_with ["_law_box_here", "_law_one", "_law_a", "_law_other", "_law_b"] (defScope s_law_goes_with) := ⟨rfl, rfl, rfl, by decide +kernel, rfl, by decide +kernel, by decide +kernel⟩
def spGoesWith : Sp := fun vs H Q _ => ∃ (b p : Addr) (W : Web) (rm : Nat → Addr) (en : Nat → Nat → Addr) (x : Nat) (p' : Addr) (V : Web) (rm' : Nat → Addr) (en' : Nat → Nat → Addr) (y f : Nat), vs = [.ref b, .ref p, iv x, .ref p', iv y] ∧ BoxOk H b f ∧ TwoH H p W rm en x p' V rm' en' y ∧ (∀ k, Lk W V none none k x y) ∧ f + 1000 ≤ 1000000000 ∧
  ∀ H', BK b H H' → BoxOk H' b (f + 1000) → Q (.bl true) H'
theorem lk_none {W V : Web} {s t : Option Nat} {x y : Nat} (cW : Closed W) (cV : Closed V) (hx : x < W.length) (hy : y < V.length) (h : ∀ k, Lk W V s t k x y) : lp W V s t x y = none := by
  have ht := lp_told (s := s) (t := t) cW cV hx hy
  cases e : lp W V s t x y with
  | none => rfl
  | some u =>
    rw [e] at ht
    exact (ht.1 (h _)).elim
theorem any_pt {x : Pt} : ∀ {Ps : List Pt}, x ∈ Ps → ((Ps.map ptD).any fun z => PyData.eqv z (ptD x)) = true
  | y :: Ps, h => by
    rw [List.map_cons, List.any_cons, Bool.or_eq_true]
    rcases List.mem_cons.mp h with e | e
    · subst e
      exact .inl (by rw [ptD_eqv, decide_eq_true rfl])
    · exact .inr (any_pt e)
theorem has_goeswith (B : Bt mg) (T : Top K mg "_law_goes_with" s_law_goes_with) (H_pairing_ : Has P w K mg base "pairing" ["one", "a", "other", "b"] 4 spPairing) (H_parting_ : Has P w K mg base "parting" ["one", "a", "other", "b"] 3 spParting)
    (H_shows_pairing_T : Has P w K mg base "shows_pairing" ["one", "a", "other", "b", "pairs"] 3 (spShowsPairing false)) (H_law_seen_alike_ : Has P w K mg base "_law_seen_alike" ["_law_box_here", "_law_one", "_law_a", "_law_other", "_law_b"] 4 spSeenAlike) :
    Has P w K mg base "_law_goes_with" ["_law_box_here", "_law_one", "_law_a", "_law_other", "_law_b"] 5 spGoesWith := by
  obtain ⟨f_pairing_, fd_pairing_, G_pairing_, m_pairing_, kp_pairing_, b_pairing_⟩ := H_pairing_.ex
  obtain ⟨f_parting_, fd_parting_, G_parting_, m_parting_, kp_parting_, b_parting_⟩ := H_parting_.ex
  obtain ⟨f_shows_pairing_T, fd_shows_pairing_T, G_shows_pairing_T, m_shows_pairing_T, kp_shows_pairing_T, b_shows_pairing_T⟩ := H_shows_pairing_T.ex
  obtain ⟨f_law_seen_alike_, fd_law_seen_alike_, G_law_seen_alike_, m_law_seen_alike_, kp_law_seen_alike_, b_law_seen_alike_⟩ := H_law_seen_alike_.ex
  obtain ⟨f, fd, F, hm⟩ := T.ex
  refine ⟨f, fd, ?_, hm, F.kp, F.binds fun _ _ _ _ _ _ us hl => match us, hl with | [_, _, _, _, _], _ => rfl⟩
  refine F.ok sc_law_goes_with (fun vs H Q E h => ?_) (fun cdv A outer s H vs Q E hr h => ?_)
  · obtain ⟨b, p, W, rm, en, x, p', V, rm', en', y, f, rfl, _⟩ := h
    rfl
  · obtain ⟨b, p, W, rm, en, x, p', V, rm', en', y, f, rfl, hb, h2, hlk, hf, k⟩ := h
    refine ⟨_, (pss_cons (ps_set (i := 5) sc_law_goes_with.nd rfl (Or.inl rfl) (pe_call G_pairing_ (hr.mono (by decide)) (by rfl) m_pairing_ kp_pairing_ b_pairing_ .nil pass0 (pa_cons (pv 1) (pa_cons (pv 2) (pa_cons (pv 3) (pa_cons (pv 4) pa_nil))))))
      (pss_cons (ps_if (PW.pt (pw_or (pt_cmpR op_isN (pv 5) pe_non (nomark _)) (pw_or (pt_cmpR op_notN (pe_call G_parting_ (hr.mono (by decide)) (by rfl) m_parting_ kp_parting_ b_parting_ .nil pass0 (pa_cons (pv 1) (pa_cons (pv 2) (pa_cons (pv 3) (pa_cons (pv 4) pa_nil))))) pe_non (nomark _)) (pw_or1 (pt_not (pt_val (pe_call G_shows_pairing_T (hr.mono (by decide)) (by rfl) m_shows_pairing_T kp_shows_pairing_T b_shows_pairing_T .nil pass0 (pa_cons (pv 1) (pa_cons (pv 2) (pa_cons (pv 3) (pa_cons (pv 4) (pa_cons (pe_callTy (k_tuple K rfl) (by rfl) B.tuple_ (by decide +kernel) (pa_cons (pv 5) pa_nil)) pa_nil)))))))))))) (pss_one (ps_ret pe_bl)) pss_nil)
      (pss_one (ps_ret (pe_and (pe_cmpR (k_inD K rfl (u65 hr)) (pe_tup (pa_cons (pv 2) (pa_cons (pv 4) pa_nil))) (pv 5) (by rfl)) (pe_one (pe_call G_law_seen_alike_ (hr.mono (by decide)) (by rfl) m_law_seen_alike_ kp_law_seen_alike_ b_law_seen_alike_ .nil pass0 (pa_cons (pv 0) (pa_cons (pv 1) (pa_cons (pv 2) (pa_cons (pv 3) (pa_cons (pv 4) pa_nil)))))))))))), ?_⟩
    have hno := lk_none h2.cW h2.cV h2.ha h2.hb hlk
    refine ⟨_, rfl, _, rfl, _, rfl, _, rfl, p, W, rm, en, x, p', V, rm', en', y, rfl, h2, fun wy H' _ e => (by rw [hno] at e; cases e), fun D H1 ys Ps s1 _ hD0 hD hys hP => ?_⟩
    have h21 := h2.tm (Tm.of s1)
    refine ⟨_, rfl, rfl, _, rfl, iteDF (fun z => nomatch z) ?_⟩
    refine ⟨_, rfl, _, rfl, _, rfl, _, rfl, p, W, rm, en, x, p', V, rm', en', y, rfl, h21, fun v1 H2 s2 hv1 => ?_⟩
    rw [hno] at hv1
    have hv1 : v1 = .non := hv1
    subst hv1
    have h22 := h21.tm (Tm.of s2)
    refine ⟨rfl, _, rfl, iteNT rfl ?_⟩
    have hD2 := s2 _ _ hD
    have hys2 := pts_tm (Tm.of s2) hys
    refine ⟨_, rfl, _, rfl, _, rfl, _, rfl, _, rfl, D, ys, rfl, .inl ⟨SqL.of hD2, fun t ht => ?_⟩⟩
    have h23 := h22.tm (Tm.new (o := .tup ys) ht)
    refine ⟨p, W, rm, en, x, p', V, rm', en', y, t, ys, Ps, rfl, h23.hW, h23.hV, h2.smW, upd_same, pts_tm (Tm.new ht) hys2, hP, fun H3 s3 => ⟨true, rfl, iteF ?_⟩⟩
    have s23 := (same_new (o := .tup ys) ht).trans s3
    refine ⟨_, rfl, _, rfl, sz1000 (by show 2 ≤ 100000; decide), fun t2 ht2 => ?_⟩
    have s24 := same_upd (o := .tup [iv x, iv y]) s23 ht2
    refine ⟨_, rfl, ptD (x, y), Ps.map ptD, dp_pt ⟨t2, rfl, upd_same⟩, .lst (SqL.of (s24 _ _ hD2)) (dp_pts (pts_tm (Tm.of s24) hys2)), pair_shaped _, pairs_shaped _, ?_⟩
    rw [any_pt hP.has]
    refine ⟨_, rfl, iteT ?_⟩
    have sall := (s1.trans s2).trans s24
    exact ⟨_, rfl, _, rfl, _, rfl, _, rfl, _, rfl, b, p, W, rm, en, x, p', V, rm', en', y, f, rfl, hb.same sall, h2.tm (Tm.of sall), hlk, hf, fun H' k2 b2 => k H' ((BK.of sall hb.some).trans k2) b2⟩
end
end K18
namespace K18
open PySem PySem.Spec PyProof.Rows L2
section
variable {P : Program} {w : World} {K : PySem.W.Frag} {mg : Str → Option Value} {base : Heap}
/-! _law_two_right -/
theorem kind_has {ns : List Nat} {n x : Nat} (hx : x < n) (g : Nat) : decide (x ∈ roomsOf ns n g) = decide (nn ns x = g) := by
  rw [decide_eq_decide, roomsOf_mem]
  exact ⟨fun h => h.2, fun h => ⟨hx, h⟩⟩
def apartAt (ns : List Nat) (x y g : Nat) : Bool := !decide (V.bl (decide (nn ns x = g)) = V.bl (decide (nn ns y = g)))
def bothAt (ns : List Nat) (x y g : Nat) : Bool := decide (nn ns x = g) && decide (nn ns y = g)
theorem apart_any {ns : List Nat} {x y m : Nat} (hx : nn ns x < m) : decide (∃ g, g < m ∧ apartAt ns x y g = true) = !decide (nn ns x = nn ns y) := by
  unfold apartAt
  by_cases e : nn ns x = nn ns y
  · rw [decide_eq_true e]
    refine decide_eq_false fun ⟨g, _, h⟩ => ?_
    rw [e] at h
    simp at h
  · rw [decide_eq_false e]
    refine decide_eq_true ⟨nn ns x, hx, ?_⟩
    simp [Ne.symm e]
theorem both_any {ns : List Nat} {x y m : Nat} (hx : nn ns x < m) : decide (∃ g, g < m ∧ bothAt ns x y g = true) = decide (nn ns x = nn ns y) := by
  unfold bothAt
  rw [decide_eq_decide]
  constructor
  · rintro ⟨g, _, h⟩
    rw [Bool.and_eq_true, decide_eq_true_eq, decide_eq_true_eq] at h
    rw [h.1, h.2]
  · intro e
    exact ⟨nn ns x, hx, by rw [e]; simp⟩
theorem lp_len {W : Web} (cW : Closed W) {x y : Nat} {u : List Nat} (hx : x < W.length) (hy : y < W.length) (e : lp W W none none x y = some u) (k : Nat) : Lk W W none none k x y ↔ k < u.length := by
  have t := lp_told (s := none) (t := none) cW cW hx hy
  rw [e] at t
  constructor
  · intro h
    by_cases l : k < u.length
    · exact l
    · exact (t.1 (h.le (by omega))).elim
  · exact t.2.1 k
abbrev N_law_two_right : List Str := ["_law_box_here", "_law_web_here", "_law_a", "_law_b", "_law_way_here", "_law_pairs", "_law_stoned", "_law_many", "_law_together", "_law_shown", "_law_some"]
theorem sc_law_two_right : FnScope N_law_two_right ["_law_box_here", "_law_web_here", "_law_a", "_law_b"] (defScope s_law_two_right) := ⟨rfl, rfl, rfl, by decide +kernel, rfl, by decide +kernel, by decide +kernel⟩
def spTwoRight : Sp := fun vs H Q _ => ∃ (b p : Addr) (W : Web) (rm : Nat → Addr) (en : Nat → Nat → Addr) (x y f : Nat), vs = [.ref b, .ref p, iv x, iv y] ∧ BoxOk H b f ∧ WebH H p W rm en ∧ Closed W ∧ Small W ∧ W.length * W.length ≤ 900 ∧ x < W.length ∧ y < W.length ∧ f + 1000 ≤ 1000000000 ∧
  ∀ H', BK b H H' → BoxOk H' b (f + 1000) → Q (.bl true) H'
theorem has_tworight (B : Bt mg) (T : Top K mg "_law_two_right" s_law_two_right) (H_parting_ : Has P w K mg base "parting" ["one", "a", "other", "b"] 3 spParting) (H_pairing_ : Has P w K mg base "pairing" ["one", "a", "other", "b"] 4 spPairing)
    (H_kinds_ : Has P w K mg base "kinds" ["web"] 4 spKinds) (H_parting_with_stone_ : Has P w K mg base "parting_with_stone" ["one", "a", "other", "b"] 3 spStoned) (H_shows_pairing_L : Has P w K mg base "shows_pairing" ["one", "a", "other", "b", "pairs"] 3 (spShowsPairing true))
    (H_law_seen_alike_ : Has P w K mg base "_law_seen_alike" ["_law_box_here", "_law_one", "_law_a", "_law_other", "_law_b"] 4 spSeenAlike) (H_seen_ : Has P w K mg base "seen" ["web", "room", "way"] 1 spSeen)
    (H_shows_parting_ : Has P w K mg base "shows_parting" ["one", "a", "other", "b", "way"] 4 spShowsParting) (H_kinds_by_ : Has P w K mg base "kinds_by" ["web", "many"] 3 spKindsBy) :
    Has P w K mg base "_law_two_right" ["_law_box_here", "_law_web_here", "_law_a", "_law_b"] 5 spTwoRight := by
  obtain ⟨f_parting_, fd_parting_, G_parting_, m_parting_, kp_parting_, b_parting_⟩ := H_parting_.ex
  obtain ⟨f_pairing_, fd_pairing_, G_pairing_, m_pairing_, kp_pairing_, b_pairing_⟩ := H_pairing_.ex
  obtain ⟨f_kinds_, fd_kinds_, G_kinds_, m_kinds_, kp_kinds_, b_kinds_⟩ := H_kinds_.ex
  obtain ⟨f_parting_with_stone_, fd_parting_with_stone_, G_parting_with_stone_, m_parting_with_stone_, kp_parting_with_stone_, b_parting_with_stone_⟩ := H_parting_with_stone_.ex
  obtain ⟨f_shows_pairing_L, fd_shows_pairing_L, G_shows_pairing_L, m_shows_pairing_L, kp_shows_pairing_L, b_shows_pairing_L⟩ := H_shows_pairing_L.ex
  obtain ⟨f_law_seen_alike_, fd_law_seen_alike_, G_law_seen_alike_, m_law_seen_alike_, kp_law_seen_alike_, b_law_seen_alike_⟩ := H_law_seen_alike_.ex
  obtain ⟨f_seen_, fd_seen_, G_seen_, m_seen_, kp_seen_, b_seen_⟩ := H_seen_.ex
  obtain ⟨f_shows_parting_, fd_shows_parting_, G_shows_parting_, m_shows_parting_, kp_shows_parting_, b_shows_parting_⟩ := H_shows_parting_.ex
  obtain ⟨f_kinds_by_, fd_kinds_by_, G_kinds_by_, m_kinds_by_, kp_kinds_by_, b_kinds_by_⟩ := H_kinds_by_.ex
  obtain ⟨f, fd, F, hm⟩ := T.ex
  refine ⟨f, fd, ?_, hm, F.kp, F.binds fun _ _ _ _ _ _ us hl => match us, hl with | [_, _, _, _], _ => rfl⟩
  refine F.ok sc_law_two_right (fun vs H Q E h => ?_) (fun cdv A outer s H vs Q E hr h => ?_)
  · obtain ⟨b, p, W, rm, en, x, y, f, rfl, _⟩ := h
    rfl
  · obtain ⟨b, p, W, rm, en, x, y, f, rfl, hb, hW, cW, smW, hN, hx, hy, hf, k⟩ := h
    refine ⟨_, (pss_cons (ps_set (i := 4) sc_law_two_right.nd rfl (Or.inr rfl) (pe_call G_parting_ (hr.mono (by decide)) (by rfl) m_parting_ kp_parting_ b_parting_ .nil pass0 (pa_cons (pv 1) (pa_cons (pv 2) (pa_cons (pv 1) (pa_cons (pv 3) pa_nil))))))
      (pss_cons (ps_set (i := 5) sc_law_two_right.nd rfl (Or.inl rfl) (pe_call G_pairing_ (hr.mono (by decide)) (by rfl) m_pairing_ kp_pairing_ b_pairing_ .nil pass0 (pa_cons (pv 1) (pa_cons (pv 2) (pa_cons (pv 1) (pa_cons (pv 3) pa_nil))))))
      (pss_cons (ps_if (pt_cmpR op_ne (pe_cmpR op_isN (pv 4) pe_non (nomark _)) (pe_cmpR op_notN (pv 5) pe_non (nomark _)) (nomark _)) (pss_one (ps_ret pe_bl)) pss_nil)
      (pss_cons (ps_if (pt_cmpR op_ne (pe_callB (k_any K rfl rfl) (by rfl) B.any_ (by decide +kernel) (pa_cons (pe_lc (own := [("_law_some", 10)]) (g := gName 10) rfl sc_law_two_right.nd (pi_list (pe_call G_kinds_ (hr.mono (by decide)) (by rfl) m_kinds_ kp_kinds_ b_kinds_ .nil pass0 (pa_cons (pv 1) pa_nil))) (blkOk_by (N := N_law_two_right) (sc := defScope s_law_two_right) (by decide +kernel)) (fun _ _ _ _ _ => (pg_name (i := 10) sc_law_two_right.nd rfl (Or.inl rfl))) (fun _ _ _ _ _ => pts_nil) (fun _ _ _ _ _ => (pe_cmpR op_ne (pe_cmpR (k_in K rfl) (pv 2) (pv 10) (by rfl)) (pe_cmpR (k_in K rfl) (pv 3) (pv 10) (by rfl)) (nomark _)))) pa_nil)) (pe_cmpR op_notN (pv 4) pe_non (nomark _)) (nomark _)) (pss_one (ps_ret pe_bl)) pss_nil)
      (pss_cons (ps_set (i := 6) sc_law_two_right.nd rfl (Or.inl rfl) (pe_call G_parting_with_stone_ (hr.mono (by decide)) (by rfl) m_parting_with_stone_ kp_parting_with_stone_ b_parting_with_stone_ .nil pass0 (pa_cons (pv 1) (pa_cons (pv 2) (pa_cons (pv 1) (pa_cons (pv 3) pa_nil))))))
      (pss_cons (ps_if (pt_cmpR op_isN (pv 4) pe_non (nomark _)) (pss_one (ps_ret (pe_and (pe_cmpR op_isBl (pe_call G_shows_pairing_L (hr.mono (by decide)) (by rfl) m_shows_pairing_L kp_shows_pairing_L b_shows_pairing_L .nil pass0 (pa_cons (pv 1) (pa_cons (pv 2) (pa_cons (pv 1) (pa_cons (pv 3) (pa_cons (pv 5) pa_nil)))))) pe_bl (nomark _)) (pe_one (pe_call G_law_seen_alike_ (hr.mono (by decide)) (by rfl) m_law_seen_alike_ kp_law_seen_alike_ b_law_seen_alike_ .nil pass0 (pa_cons (pv 0) (pa_cons (pv 1) (pa_cons (pv 2) (pa_cons (pv 1) (pa_cons (pv 3) pa_nil)))))))))) pss_nil)
      (pss_cons (ps_if (PW.pt (pw_or (pt_cmpR op_isN (pv 6) pe_non (nomark _)) (pw_or (pt_cmpR op_gt (pe_callB (k_len K rfl) (by rfl) B.len_ PySem.boot_len (pa_cons (pv 6) pa_nil)) (pe_callB (k_len K rfl) (by rfl) B.len_ PySem.boot_len (pa_cons (pv 4) pa_nil)) (nomark _)) (pw_or1 (pt_cmpR (k_eqD K rfl hr.units) (pe_call G_seen_ (hr.mono (by decide)) (by rfl) m_seen_ kp_seen_ b_seen_ .nil pass0 (pa_cons (pv 1) (pa_cons (pv 2) (pa_cons (pv 4) pa_nil)))) (pe_call G_seen_ (hr.mono (by decide)) (by rfl) m_seen_ kp_seen_ b_seen_ .nil pass0 (pa_cons (pv 1) (pa_cons (pv 3) (pa_cons (pv 4) pa_nil)))) (nomark _)))))) (pss_one (ps_ret pe_bl)) pss_nil)
      (pss_cons (ps_if (PW.pt (pw_or (pt_cmpR op_notBl (pe_call G_shows_parting_ (hr.mono (by decide)) (by rfl) m_shows_parting_ kp_shows_parting_ b_shows_parting_ .nil pass0 (pa_cons (pv 1) (pa_cons (pv 2) (pa_cons (pv 1) (pa_cons (pv 3) (pa_cons (pv 4) pa_nil)))))) pe_bl (nomark _)) (pw_or1 (pt_cmpR (k_neD K rfl hr.units) (pe_call G_parting_ (hr.mono (by decide)) (by rfl) m_parting_ kp_parting_ b_parting_ .nil pass0 (pa_cons (pv 1) (pa_cons (pv 3) (pa_cons (pv 1) (pa_cons (pv 2) pa_nil))))) (pv 4) (nomark _))))) (pss_one (ps_ret pe_bl)) pss_nil)
      (pss_cons (ps_for PassesOwn.never rfl (pi_range1 (by rfl) B.range_ (pa_cons (pe_op op_add (pe_callB (k_len K rfl) (by rfl) B.len_ PySem.boot_len (pa_cons (pv 4) pa_nil)) pe_int) pa_nil)) (pg_name (i := 7) sc_law_two_right.nd rfl (Or.inl rfl))
      (pss_cons (ps_set (i := 8) sc_law_two_right.nd rfl (Or.inl rfl) (pe_callB (k_any K rfl rfl) (by rfl) B.any_ (by decide +kernel) (pa_cons (pe_lc (own := [("_law_some", 10)]) (g := gName 10) rfl sc_law_two_right.nd (pi_list (pe_call G_kinds_by_ (hr.mono (by decide)) (by rfl) m_kinds_by_ kp_kinds_by_ b_kinds_by_ .nil pass0 (pa_cons (pv 1) (pa_cons (pv 7) pa_nil)))) (blkOk_by (N := N_law_two_right) (sc := defScope s_law_two_right) (by decide +kernel)) (fun _ _ _ _ _ => (pg_name (i := 10) sc_law_two_right.nd rfl (Or.inl rfl))) (fun _ _ _ _ _ => pts_nil) (fun _ _ _ _ _ => (pe_and (pe_cmpR (k_in K rfl) (pv 2) (pv 10) (by rfl)) (pe_one (pe_cmpR (k_in K rfl) (pv 3) (pv 10) (by rfl)))))) pa_nil)))
      (pss_cons (ps_set (i := 9) sc_law_two_right.nd rfl (Or.inl rfl) (pe_call G_shows_parting_ (hr.mono (by decide)) (by rfl) m_shows_parting_ kp_shows_parting_ b_shows_parting_ .nil pass0 (pa_cons (pv 1) (pa_cons (pv 2) (pa_cons (pv 1) (pa_cons (pv 3) (pa_cons (pe_slice (k_slt K rfl) (pv 4) po_none (po_some (pv 7))) pa_nil)))))))
      (pss_one (ps_if (PW.pt (pw_or (pt_cmpR op_ne (pv 8) (pe_cmpR op_lt (pv 7) (pe_callB (k_len K rfl) (by rfl) B.len_ PySem.boot_len (pa_cons (pv 4) pa_nil)) (nomark _)) (nomark _)) (pw_or1 (pt_cmpR op_ne (pv 9) (pe_cmpR op_ge (pv 7) (pe_callB (k_len K rfl) (by rfl) B.len_ PySem.boot_len (pa_cons (pv 4) pa_nil)) (nomark _)) (nomark _))))) (pss_one (ps_ret pe_bl)) pss_nil)))))
      (pss_one (ps_ret (pe_callB (k_all K rfl rfl) (by rfl) B.all_ (by decide +kernel) (pa_cons (pe_lc (own := [("_law_many", 7)]) (g := gName 7) rfl sc_law_two_right.nd (pi_range1 (by rfl) B.range_ (pa_cons (pe_callB (k_len K rfl) (by rfl) B.len_ PySem.boot_len (pa_cons (pv 4) pa_nil)) pa_nil)) (blkOk_by (N := N_law_two_right) (sc := defScope s_law_two_right) (by decide +kernel)) (fun _ _ _ _ _ => (pg_name (i := 7) sc_law_two_right.nd rfl (Or.inl rfl))) (fun _ _ _ _ _ => pts_nil) (fun _ _ _ _ _ => (pe_cmpR (k_eqD K rfl hr.units) (pe_call G_seen_ (hr.mono (by decide)) (by rfl) m_seen_ kp_seen_ b_seen_ .nil pass0 (pa_cons (pv 1) (pa_cons (pv 2) (pa_cons (pe_slice (k_slt K rfl) (pv 4) po_none (po_some (pv 7))) pa_nil)))) (pe_call G_seen_ (hr.mono (by decide)) (by rfl) m_seen_ kp_seen_ b_seen_ .nil pass0 (pa_cons (pv 1) (pa_cons (pv 3) (pa_cons (pe_slice (k_slt K rfl) (pv 4) po_none (po_some (pv 7))) pa_nil)))) (nomark _)))) pa_nil))))))))))))), ?_⟩
    have hpos : 0 < W.length := by omega
    have two : ∀ {H' : Hp}, WebH H' p W rm en → TwoH H' p W rm en x p W rm en y := fun h => ⟨h, h, cW, cW, smW, smW, by omega, hx, hy⟩
    have two' : ∀ {H' : Hp}, WebH H' p W rm en → TwoH H' p W rm en y p W rm en x := fun h => ⟨h, h, cW, cW, smW, smW, by omega, hy, hx⟩
    have ht := lp_told (s := none) (t := none) cW cW hx hy
    cases ho : lp W W none none x y with
    | none =>
      rw [ho] at ht
      have ht : ∀ k, Lk W W none none k x y := ht
      refine ⟨_, rfl, _, rfl, _, rfl, _, rfl, p, W, rm, en, x, p, W, rm, en, y, rfl, two hW, fun v1 H1 s1 hv1 => ?_⟩
      rw [ho] at hv1
      have hv1 : v1 = .non := hv1
      subst hv1
      have hW1 := hW.tm (Tm.of s1)
      refine ⟨_, rfl, _, rfl, _, rfl, _, rfl, p, W, rm, en, x, p, W, rm, en, y, rfl, two hW1, fun wy H' _ e => (by rw [ho] at e; cases e), fun D H2 ys Ps s2 _ hD0 hD hys hP => ?_⟩
      have hW2 := hW1.tm (Tm.of s2)
      refine ⟨_, rfl, rfl, _, rfl, rfl, rfl, _, rfl, iteNT (by simp) ?_⟩
      refine ⟨_, rfl, p, W, rm, en, rfl, hW2, cW, smW, hpos, fun G H3 ns gs s3 hk hK => ⟨G, rfl, ⟨_, SqL.of hK.lst⟩, fun E hE => lcP walk_list (fun j H z => z = .bl (apartAt ns x y j)) hE (by rw [List.length_map]; have := hK.few; omega) (fun H' s => SqL.of (s _ _ hK.lst)) (fun j z H' H'' _ r _ => r) (fun i Hi x Hx y => y_at y) ?_ ?_⟩⟩
      · rintro g v Hi Hx Qc hg s4 _ ⟨rfl, hv⟩ q2
        obtain ⟨a, ha, rfl⟩ := map_get hv
        have hga := s4 _ _ (hK.item g a ha)
        refine ⟨rfl, _, rfl, _, rfl, a, _, rfl, .inl (SqL.of hga), rfl, flat_ivs _, _, rfl, _, rfl, a, _, rfl, .inl (SqL.of hga), rfl, flat_ivs _, rfl, q2 _ _ (Same.refl _) ?_⟩
        show V.bl (!decide (V.bl (inV (iv x) ((roomsOf ns W.length g).map iv)) = V.bl (inV (iv y) ((roomsOf ns W.length g).map iv)))) = _
        rw [inV_ivs, inV_ivs, kind_has hx, kind_has hy]
        rfl
      intro H4 acc s4 hA hlen hval
      rw [List.length_map] at hlen
      have ea := bls_of hlen hval
      have enn : nn ns x = nn ns y := (hk.eq x y hx hy).mpr (ht _)
      refine ⟨E, _, rfl, SqL.of (by rw [hA, ea]), _, rfl, rfl, rfl, _, rfl, ?_⟩
      rw [any_rg, apart_any (hK.all x hx), decide_eq_true enn]
      refine iteNT (by simp) ?_
      have s24 := (s2.trans s3).trans s4
      have hW4 := hW2.tm (Tm.of (s3.trans s4))
      refine ⟨_, rfl, _, rfl, _, rfl, _, rfl, p, W, rm, en, x, p, W, rm, en, y, rfl, two hW4, fun v6 H5 s5 hv6 => ?_⟩
      have hW5 := hW4.tm (Tm.of s5)
      refine ⟨_, rfl, rfl, _, rfl, iteDT rfl ?_⟩
      have s35 := (s3.trans s4).trans s5
      refine ⟨_, rfl, _, rfl, _, rfl, _, rfl, _, rfl, p, W, rm, en, x, p, W, rm, en, y, D, ys, Ps, rfl, hW5, hW5, smW, s35 _ _ hD, pts_tm (Tm.of s35) hys, hP, fun H6 s6 => ⟨_, _, rfl, rfl, _, rfl, iteDT rfl ?_⟩⟩
      have sall := ((s1.trans s2).trans s35).trans s6
      exact ⟨_, rfl, _, rfl, _, rfl, _, rfl, _, rfl, b, p, W, rm, en, x, p, W, rm, en, y, f, rfl, hb.same sall, two (hW.tm (Tm.of sall)), ht, hf, fun H' k2 b2 => k H' ((BK.of sall hb.some).trans k2) b2⟩
    | some wy =>
      rw [ho] at ht
      obtain ⟨t1, t2, t3, t4⟩ := ht
      have t3 := t3 rfl rfl
      have hlen := lp_len cW hx hy ho
      have hwl : wy.length ≤ 900 := by omega
      refine ⟨_, rfl, _, rfl, _, rfl, _, rfl, p, W, rm, en, x, p, W, rm, en, y, rfl, two hW, fun v1 H1 s1 hv1 => ?_⟩
      rw [ho] at hv1
      obtain ⟨q, rfl, hq1⟩ := hv1
      have hW1 := hW.tm (Tm.of s1)
      refine ⟨_, rfl, _, rfl, _, rfl, _, rfl, p, W, rm, en, x, p, W, rm, en, y, rfl, two hW1, fun _ H2 s2 _ => ?_, fun D H2 ys Ps s2 e => (by rw [ho] at e; cases e)⟩
      have hW2 := hW1.tm (Tm.of s2)
      have s12 := s1.trans s2
      have hq2 := s2 _ _ hq1
      refine ⟨_, rfl, rfl, _, rfl, rfl, rfl, _, rfl, iteNT (by simp) ?_⟩
      refine ⟨_, rfl, p, W, rm, en, rfl, hW2, cW, smW, hpos, fun G H3 ns gs s3 hk hK => ⟨G, rfl, ⟨_, SqL.of hK.lst⟩, fun E hE => lcP walk_list (fun j H z => z = .bl (apartAt ns x y j)) hE (by rw [List.length_map]; have := hK.few; omega) (fun H' s => SqL.of (s _ _ hK.lst)) (fun j z H' H'' _ r _ => r) (fun i Hi x Hx y => y_at y) ?_ ?_⟩⟩
      · rintro g v Hi Hx Qc hg s4 _ ⟨rfl, hv⟩ q2
        obtain ⟨a, ha, rfl⟩ := map_get hv
        have hga := s4 _ _ (hK.item g a ha)
        refine ⟨rfl, _, rfl, _, rfl, a, _, rfl, .inl (SqL.of hga), rfl, flat_ivs _, _, rfl, _, rfl, a, _, rfl, .inl (SqL.of hga), rfl, flat_ivs _, rfl, q2 _ _ (Same.refl _) ?_⟩
        show V.bl (!decide (V.bl (inV (iv x) ((roomsOf ns W.length g).map iv)) = V.bl (inV (iv y) ((roomsOf ns W.length g).map iv)))) = _
        rw [inV_ivs, inV_ivs, kind_has hx, kind_has hy]
        rfl
      intro H4 acc s4 hA hlen4 hval
      rw [List.length_map] at hlen4
      have ea := bls_of hlen4 hval
      have enn : ¬ nn ns x = nn ns y := fun e => t1 (lk_all cW hx hy ((hk.eq x y hx hy).mp e) _)
      refine ⟨E, _, rfl, SqL.of (by rw [hA, ea]), _, rfl, rfl, rfl, _, rfl, ?_⟩
      rw [any_rg, apart_any (hK.all x hx), decide_eq_false enn]
      refine iteNT (by simp) ?_
      have s34 := s3.trans s4
      have hW4 := hW2.tm (Tm.of s34)
      have hq4 := s34 _ _ hq2
      refine ⟨_, rfl, _, rfl, _, rfl, _, rfl, p, W, rm, en, x, p, W, rm, en, y, rfl, two hW4, fun v6 H5 s5 hv6 => ?_⟩
      have hW5 := hW4.tm (Tm.of s5)
      have hq5 := s5 _ _ hq4
      have hts := lp_told (s := some x) (t := some y) cW cW hx hy
      cases hst : lp W W (some x) (some y) x y with
      | none =>
        rw [hst] at hts
        exact (t1 (Lk.bare (hts _))).elim
      | some sw =>
        rw [hst] at hv6 hts
        obtain ⟨q6, rfl, hq6⟩ := hv6
        have hsl : sw.length ≤ wy.length := by
          by_cases l : sw.length ≤ wy.length
          · exact l
          · exact (t1 (Lk.bare (hts.2.1 _ (by omega)))).elim
        refine ⟨_, rfl, rfl, _, rfl, iteDF (fun z => nomatch z) ?_⟩
        refine ⟨_, rfl, rfl, _, rfl, iteDF (fun z => nomatch z) ?_⟩
        refine ⟨_, rfl, q6, _, rfl, .inr (SqT.of hq6), _, rfl, q, _, rfl, .inr (SqT.of hq5), _, _, rfl, rfl, _, rfl, ?_⟩
        rw [List.length_map, List.length_map]
        refine iteDF (fun z => by omega) ?_
        refine ⟨_, rfl, _, rfl, _, rfl, p, W, rm, en, x, q, wy, rfl, hW5, cW, hx, hq5, by omega, fun w1 H6 s6 hw1 => ?_⟩
        have hW6 := hW5.tm (Tm.of s6)
        refine ⟨_, rfl, _, rfl, _, rfl, p, W, rm, en, y, q, wy, rfl, hW6, cW, hy, s6 _ _ hq5, by omega, fun w2 H7 s7 hw2 => ?_⟩
        refine ⟨_, _, dp_seen (hw1.tm (Tm.of s7)), dp_seen hw2, seen_shaped _, seen_shaped _, _, rfl, ?_⟩
        rw [seen_eqv]
        refine iteDF t3 ?_
        have s67 := s6.trans s7
        have hW7 := hW5.tm (Tm.of s67)
        have hq7 := s67 _ _ hq5
        refine ⟨_, rfl, _, rfl, _, rfl, _, rfl, _, rfl, p, W, rm, en, x, p, W, rm, en, y, q, wy, rfl, two hW7, hq7, by omega, fun H8 s8 => ⟨_, _, rfl, rfl, _, rfl, ?_⟩⟩
        rw [if_neg t3, ho, decide_eq_true (show some wy.length = (some wy).map List.length from rfl)]
        refine iteNT rfl ?_
        have hW8 := hW7.tm (Tm.of s8)
        have hq8 := s8 _ _ hq7
        refine ⟨_, rfl, _, rfl, _, rfl, _, rfl, p, W, rm, en, y, p, W, rm, en, x, rfl, two' hW8, fun v9 H9 s9 hv9 => ?_⟩
        have esw : lp W W none none y x = some wy := (lp_sw (s := none) (t := none) x y).trans ho
        rw [esw] at hv9
        have hW9 := hW8.tm (Tm.of s9)
        have hq9 := s9 _ _ hq8
        refine ⟨_, rfl, _, _, dp_way hv9, dp_way ⟨q, rfl, hq9⟩, way_shaped _, way_shaped _, _, rfl, ?_⟩
        rw [way_eqv]
        refine iteNT rfl ?_
        have s09 := (((s12.trans s34).trans s5).trans s67).trans (s8.trans s9)
        refine ⟨_, rfl, q, _, rfl, .inr (SqT.of hq9), _, _, rfl, rfl, _, rfl, by rw [List.length_map]; omega, by rw [List.length_map]; omega, for_range (lo := 0) (n := _) (fun i σ H' => ∃ (c7 c8 c9 : Option L2.V), σ = [some (.ref b), some (.ref p), some (iv x), some (iv y), some (.ref q), some .non, some (.ref q6), c7, c8, c9, none] ∧ Same H H' ∧ WebH H' p W rm en ∧ H' q = some (.tup (wy.map iv)))
          ⟨none, none, none, rfl, s09, hW9, hq9⟩ ?_ ?_⟩
        · rintro i σ H1 hi ⟨c7, c8, c9, rfl, sH, hWi, hqi⟩
          rw [show (0 : Int) + (i : Int) = (i : Int) from Int.zero_add _]
          have hi : i < wy.length + 2 := by rw [List.length_map] at hi; omega
          refine ⟨_, rfl, _, rfl, p, W, rm, en, i, rfl, hWi, cW, smW, by omega, hpos, fun G H3 ns gs s3 hk hK => ⟨G, rfl, ⟨_, SqL.of hK.lst⟩, fun E hE => lcP walk_list (fun j H z => z = .bl (bothAt ns x y j)) hE (by rw [List.length_map]; have := hK.few; omega) (fun H' s => SqL.of (s _ _ hK.lst)) (fun j z H' H'' _ r _ => r) (fun i Hi x Hx y => y_at y) ?_ ?_⟩⟩
          · rintro g v Hi Hx Qc hg s4 _ ⟨rfl, hv⟩ q2
            obtain ⟨a, ha, rfl⟩ := map_get hv
            have hga := s4 _ _ (hK.item g a ha)
            refine ⟨rfl, _, rfl, _, rfl, a, _, rfl, .inl (SqL.of hga), rfl, flat_ivs _, _, rfl, ?_⟩
            show if inV (iv x) ((roomsOf ns W.length g).map iv) = true then _ else _
            rw [inV_ivs, kind_has hx]
            by_cases e : nn ns x = g
            · refine iteDT e ⟨_, rfl, _, rfl, a, _, rfl, .inl (SqL.of hga), rfl, flat_ivs _, q2 _ _ (Same.refl _) ?_⟩
              show V.bl (inV (iv y) ((roomsOf ns W.length g).map iv)) = _
              rw [inV_ivs, kind_has hy]
              unfold bothAt
              rw [decide_eq_true e, Bool.true_and]
            · refine iteDF e (q2 _ _ (Same.refl _) ?_)
              unfold bothAt
              rw [decide_eq_false e, Bool.false_and]
          intro H4 acc s4 hA hlen4 hval
          rw [List.length_map] at hlen4
          have ea := bls_of hlen4 hval
          have enn : decide (nn ns x = nn ns y) = decide (i < wy.length) := decide_eq_decide.mpr ((hk.eq x y hx hy).trans (hlen i))
          refine ⟨E, _, rfl, SqL.of (by rw [hA, ea]), ?_⟩
          rw [any_rg, both_any (hK.all x hx), enn]
          have s34 := s3.trans s4
          have hW4 := hWi.tm (Tm.of s34)
          have hq4 := s34 _ _ hqi
          refine ⟨_, rfl, _, rfl, _, rfl, _, rfl, _, rfl, _, rfl, (i : Int), rfl, slA_q hq4 fun q1 H5 s5 hq1 => ?_⟩
          rw [cut_to, ← List.map_take] at hq1
          have hW5 := hW4.tm (Tm.of s5)
          refine ⟨p, W, rm, en, x, p, W, rm, en, y, q1, wy.take i, rfl, two hW5, hq1, by rw [List.length_take]; omega, fun H6 s6 => ?_⟩
          have esh : (if seenOf W x (wy.take i) = seenOf W y (wy.take i) then false else decide (some (wy.take i).length = (lp W W none none x y).map List.length)) = decide (wy.length ≤ i) := by
            by_cases l : i < wy.length
            · rw [if_pos (((hlen i).mpr l).seenOf (by rw [List.length_take]; omega)), decide_eq_false (by omega)]
            · rw [List.take_of_length_le (by omega), if_neg t3, ho, decide_eq_true (by omega : wy.length ≤ i)]
              exact decide_eq_true rfl
          rw [esh]
          have hq6' := s6 _ _ (s5 _ _ hq4)
          refine ⟨_, rfl, _, rfl, _, rfl, q, _, rfl, .inr (SqT.of hq6'), _, _, rfl, rfl, rfl, _, rfl, iteNT ?_ ?_⟩
          · show V.bl (decide (i < wy.length)) = V.bl (decide ((i : Int) < ((wy.map iv).length : Int)))
            rw [List.length_map]
            exact congrArg V.bl (decide_eq_decide.mpr (by omega))
          refine ⟨_, rfl, _, rfl, _, rfl, q, _, rfl, .inr (SqT.of hq6'), _, _, rfl, rfl, rfl, _, rfl, iteNT ?_ ?_⟩
          · show V.bl (decide (wy.length ≤ i)) = V.bl (decide (((wy.map iv).length : Int) ≤ (i : Int)))
            rw [List.length_map]
            exact congrArg V.bl (decide_eq_decide.mpr (by omega))
          exact ⟨_, _, _, rfl, ((sH.trans s34).trans s5).trans s6, (hW5.tm (Tm.of s6)), hq6'⟩
        · rintro σ H1 ⟨c7, c8, c9, rfl, sH, hWi, hqi⟩
          refine ⟨_, rfl, q, _, rfl, .inr (SqT.of hqi), _, rfl, by rw [List.length_map]; omega, by rw [List.length_map]; omega, fun E hE => lcP walk_range (fun _ _ z => z = .bl true) hE (by rw [List.length_map]; omega) (fun _ _ => trivial) (fun j z H' H'' _ r _ => r) (fun i Hi x Hx y => y_fn y) ?_ ?_⟩
          · rintro i v Hi Hx Qc hi s4 _ ⟨rfl, rfl⟩ q2
            have hi : i < wy.length := by rw [List.length_map] at hi; omega
            show gName 7 (L2.V.int (0 + (i : Int))) _ _ _
            rw [show (0 : Int) + (i : Int) = (i : Int) from Int.zero_add _]
            have hq4 := s4 _ _ hqi
            have hW4 := hWi.tm (Tm.of s4)
            refine ⟨rfl, _, rfl, _, rfl, _, rfl, _, rfl, (i : Int), rfl, slA_q hq4 fun q1 H5 s5 hq1 => ?_⟩
            rw [cut_to, ← List.map_take] at hq1
            have hW5 := hW4.tm (Tm.of s5)
            refine ⟨p, W, rm, en, x, q1, wy.take i, rfl, hW5, cW, hx, hq1, by rw [List.length_take]; omega, fun w1 H6 s6 hw1 => ?_⟩
            have hW6 := hW5.tm (Tm.of s6)
            refine ⟨_, rfl, _, rfl, _, rfl, _, rfl, (i : Int), rfl, slA_q (s6 _ _ (s5 _ _ hq4)) fun q2' H7 s7 hq2' => ?_⟩
            rw [cut_to, ← List.map_take] at hq2'
            have hW7 := hW6.tm (Tm.of s7)
            refine ⟨p, W, rm, en, y, q2', wy.take i, rfl, hW7, cW, hy, hq2', by rw [List.length_take]; omega, fun w2 H8 s8 hw2 => ?_⟩
            refine ⟨_, _, dp_seen (hw1.tm (Tm.of (s7.trans s8))), dp_seen hw2, seen_shaped _, seen_shaped _, q2 _ _ (((s5.trans s6).trans s7).trans s8) ?_⟩
            rw [seen_eqv, decide_eq_true (((hlen i).mpr hi).seenOf (by rw [List.length_take]; omega))]
          · intro H4 acc s4 hA hlen4 hval
            have ea := bls_of (f := fun _ => true) hlen4 hval
            refine ⟨E, _, rfl, SqL.of (by rw [hA, ea]), ?_⟩
            rw [all_rg, decide_eq_true (fun _ _ => rfl)]
            have sall := sH.trans s4
            exact k _ (BK.of sall hb.some) ((hb.same sall).le (by omega))
end
end K18
namespace K18
open PySem PySem.Spec PyProof.Rows L2
section
variable {P : Program} {w : World} {K : PySem.W.Frag} {mg : Str → Option Value} {base : Heap}
/-! law -/
def spLaw (K : PySem.W.Frag) : Sp := fun vs H Q _ => ∃ (a : Addr) (ns : List Int), vs = [.ref a] ∧ SqL K H a (ns.map V.int) ∧ ns.length ≤ 63 ∧ ∀ H', Q (.bl true) H'
abbrev N_law : List Str := ["_law_script", "_law_cells", "_law_k", "_law_box_here", "_law_web_here", "_law_some", "_law_named", "_law_new", "_law_wide", "_law_room", "_law_turn_here"]
theorem sc_law : FnScope N_law ["_law_script"] (defScope s_law) := ⟨rfl, rfl, rfl, by decide +kernel, rfl, by decide +kernel, by decide +kernel⟩
theorem ok_law {f : Addr} {fd : FuncData} (B : Bt mg) (F : Fun K "law" "law" s_law f fd) (H_law_folded_ : Has P w K mg base "_law_folded" ["_law_script", "_law_many"] 1 (spFolded K)) (H_law_box_ : Has P w K mg base "_law_box" ["_law_script", "_law_k"] 1 spBox) (H_law_any_web_ : Has P w K mg base "_law_any_web" ["_law_box_here"] 4 spAnyWeb)
    (H_law_take_ : Has P w K mg base "_law_take" ["_law_box_here", "_law_many"] 1 spTake) (H_law_line_ : Has P w K mg base "_law_line" ["_law_many"] 1 spLine) (H_law_third_ : Has P w K mg base "_law_third" ["_law_web_here", "_law_some"] 4 spThird)
    (H_law_two_right_ : Has P w K mg base "_law_two_right" ["_law_box_here", "_law_web_here", "_law_a", "_law_b"] 5 spTwoRight) (H_law_renamed_ : Has P w K mg base "_law_renamed" ["_law_box_here", "_law_web_here"] 3 spRenamed)
    (H_law_goes_with_ : Has P w K mg base "_law_goes_with" ["_law_box_here", "_law_one", "_law_a", "_law_other", "_law_b"] 5 spGoesWith) (H_parting_with_stone_ : Has P w K mg base "parting_with_stone" ["one", "a", "other", "b"] 3 spStoned)
    (H_law_covered_ : Has P w K mg base "_law_covered" ["_law_box_here", "_law_web_here", "_law_many"] 3 spCovered) : FnOk P w K mg base CX0 6 f fd ["_law_script"] (spLaw K) := by
  obtain ⟨f_law_folded_, fd_law_folded_, G_law_folded_, m_law_folded_, kp_law_folded_, b_law_folded_⟩ := H_law_folded_.ex
  obtain ⟨f_law_box_, fd_law_box_, G_law_box_, m_law_box_, kp_law_box_, b_law_box_⟩ := H_law_box_.ex
  obtain ⟨f_law_any_web_, fd_law_any_web_, G_law_any_web_, m_law_any_web_, kp_law_any_web_, b_law_any_web_⟩ := H_law_any_web_.ex
  obtain ⟨f_law_take_, fd_law_take_, G_law_take_, m_law_take_, kp_law_take_, b_law_take_⟩ := H_law_take_.ex
  obtain ⟨f_law_line_, fd_law_line_, G_law_line_, m_law_line_, kp_law_line_, b_law_line_⟩ := H_law_line_.ex
  obtain ⟨f_law_third_, fd_law_third_, G_law_third_, m_law_third_, kp_law_third_, b_law_third_⟩ := H_law_third_.ex
  obtain ⟨f_law_two_right_, fd_law_two_right_, G_law_two_right_, m_law_two_right_, kp_law_two_right_, b_law_two_right_⟩ := H_law_two_right_.ex
  obtain ⟨f_law_renamed_, fd_law_renamed_, G_law_renamed_, m_law_renamed_, kp_law_renamed_, b_law_renamed_⟩ := H_law_renamed_.ex
  obtain ⟨f_law_goes_with_, fd_law_goes_with_, G_law_goes_with_, m_law_goes_with_, kp_law_goes_with_, b_law_goes_with_⟩ := H_law_goes_with_.ex
  obtain ⟨f_parting_with_stone_, fd_parting_with_stone_, G_parting_with_stone_, m_parting_with_stone_, kp_parting_with_stone_, b_parting_with_stone_⟩ := H_parting_with_stone_.ex
  obtain ⟨f_law_covered_, fd_law_covered_, G_law_covered_, m_law_covered_, kp_law_covered_, b_law_covered_⟩ := H_law_covered_.ex
  refine F.ok sc_law (fun vs H Q E h => ?_) (fun cdv A outer s H vs Q E hr h => ?_)
  · obtain ⟨a, ns, rfl, _⟩ := h
    rfl
  · obtain ⟨a, ns, rfl, hS, hnl, k⟩ := h
    refine ⟨_, (pss_cons (ps_set (i := 1) sc_law.nd rfl (Or.inl rfl) (pe_call G_law_folded_ (hr.mono (by decide)) (by rfl) m_law_folded_ kp_law_folded_ b_law_folded_ .nil pass0 (pa_cons (pv 0) (pa_cons pe_int pa_nil))))
      (pss_cons (ps_for PassesOwn.never rfl (pi_range1 (by rfl) B.range_ (pa_cons (pe_callB (call_max2 rfl) (by rfl) B.max_ (by decide +kernel) (pa_cons pe_int (pa_cons (pe_callB (k_len K rfl) (by rfl) B.len_ PySem.boot_len (pa_cons (pv 1) pa_nil)) pa_nil))) pa_nil)) (pg_name (i := 2) sc_law.nd rfl (Or.inl rfl))
      (pss_cons (ps_set (i := 3) sc_law.nd rfl (Or.inr rfl) (pe_call G_law_box_ (hr.mono (by decide)) (by rfl) m_law_box_ kp_law_box_ b_law_box_ .nil pass0 (pa_cons (pv 1) (pa_cons (pv 2) pa_nil))))
      (pss_cons (ps_set (i := 4) sc_law.nd rfl (Or.inr rfl) (pe_call G_law_any_web_ (hr.mono (by decide)) (by rfl) m_law_any_web_ kp_law_any_web_ b_law_any_web_ .nil pass0 (pa_cons (pv 3) pa_nil)))
      (pss_cons (ps_if (pt_cmpR op_eq (pe_call G_law_take_ (hr.mono (by decide)) (by rfl) m_law_take_ kp_law_take_ b_law_take_ .nil pass0 (pa_cons (pv 3) (pa_cons pe_int pa_nil))) pe_int (nomark _)) (pss_one (ps_set (i := 4) sc_law.nd rfl (Or.inr rfl) (pe_call G_law_line_ (hr.mono (by decide)) (by rfl) m_law_line_ kp_law_line_ b_law_line_ .nil pass0 (pa_cons (pe_op op_add pe_int (pe_call G_law_take_ (hr.mono (by decide)) (by rfl) m_law_take_ kp_law_take_ b_law_take_ .nil pass0 (pa_cons (pv 3) (pa_cons pe_int pa_nil)))) pa_nil)))) pss_nil)
      (pss_cons (ps_set (i := 5) sc_law.nd rfl (Or.inr rfl) (pe_lc (own := [("_law_turn_here", 10)]) (g := gName 10) rfl sc_law.nd (pi_range1 (by rfl) B.range_ (pa_cons pe_int pa_nil)) (blkOk_by (N := N_law) (sc := defScope s_law) (by decide +kernel)) (fun _ _ _ _ _ => (pg_name (i := 10) sc_law.nd rfl (Or.inl rfl))) (fun _ _ _ _ _ => pts_nil) (fun _ _ _ _ _ => (pe_call G_law_take_ (hr.mono (by decide)) (by rfl) m_law_take_ kp_law_take_ b_law_take_ .nil pass0 (pa_cons (pv 3) (pa_cons (pe_callB (k_len K rfl) (by rfl) B.len_ PySem.boot_len (pa_cons (pv 4) pa_nil)) pa_nil))))))
      (pss_cons (ps_if (pt_not (pt_val (pe_call G_law_third_ (hr.mono (by decide)) (by rfl) m_law_third_ kp_law_third_ b_law_third_ .nil pass0 (pa_cons (pv 4) (pa_cons (pv 5) pa_nil))))) (pss_one (ps_ret pe_bl)) pss_nil)
      (pss_cons (ps_if (pt_not (pt_val (pe_callB (k_all K rfl rfl) (by rfl) B.all_ (by decide +kernel) (pa_cons (pe_lc (own := [("_law_room", 9)]) (g := gName 9) rfl sc_law.nd (pi_list (pv 5)) (blkOk_by (N := N_law) (sc := defScope s_law) (by decide +kernel)) (fun _ _ _ _ _ => (pg_name (i := 9) sc_law.nd rfl (Or.inl rfl))) (fun _ _ _ _ _ => pts_nil) (fun _ _ _ _ _ => (pe_call G_law_two_right_ (hr.mono (by decide)) (by rfl) m_law_two_right_ kp_law_two_right_ b_law_two_right_ .nil pass0 (pa_cons (pv 3) (pa_cons (pv 4) (pa_cons (pe_ix (k_ixl K rfl) (pv 5) pe_int (fun _ _ => rfl)) (pa_cons (pv 9) pa_nil))))))) pa_nil)))) (pss_one (ps_ret pe_bl)) pss_nil)
      (pss_cons (ps_asg (pe_call G_law_renamed_ (hr.mono (by decide)) (by rfl) m_law_renamed_ kp_law_renamed_ b_law_renamed_ .nil pass0 (pa_cons (pv 3) (pa_cons (pv 4) pa_nil))) (pg_tup rfl (pgs_cons (pg_name (i := 6) sc_law.nd rfl (Or.inl rfl)) (pgs_cons (pg_name (i := 7) sc_law.nd rfl (Or.inl rfl)) pgs_nil))))
      (pss_cons (ps_if (pt_not (pt_val (pe_call G_law_goes_with_ (hr.mono (by decide)) (by rfl) m_law_goes_with_ kp_law_goes_with_ b_law_goes_with_ .nil pass0 (pa_cons (pv 3) (pa_cons (pv 4) (pa_cons (pe_ix (k_ixl K rfl) (pv 5) pe_int (fun _ _ => rfl)) (pa_cons (pv 6) (pa_cons (pe_ix (k_ixt K rfl) (pv 7) (pe_ix (k_ixl K rfl) (pv 5) pe_int (fun _ _ => rfl)) (fun _ _ => rfl)) pa_nil)))))))) (pss_one (ps_ret pe_bl)) pss_nil)
      (pss_cons (ps_if (pt_cmpR op_notN (pe_call G_parting_with_stone_ (hr.mono (by decide)) (by rfl) m_parting_with_stone_ kp_parting_with_stone_ b_parting_with_stone_ .nil pass0 (pa_cons (pv 4) (pa_cons (pe_ix (k_ixl K rfl) (pv 5) pe_int (fun _ _ => rfl)) (pa_cons (pv 6) (pa_cons (pe_ix (k_ixt K rfl) (pv 7) (pe_ix (k_ixl K rfl) (pv 5) pe_int (fun _ _ => rfl)) (fun _ _ => rfl)) pa_nil))))) pe_non (nomark _)) (pss_one (ps_ret pe_bl)) pss_nil)
      (pss_one (ps_if (pt_cmpR op_lt (pe_callB (k_len K rfl) (by rfl) B.len_ PySem.boot_len (pa_cons (pv 4) pa_nil)) pe_int (nomark _)) (pss_cons (ps_set (i := 8) sc_law.nd rfl (Or.inl rfl) (pe_call G_law_covered_ (hr.mono (by decide)) (by rfl) m_law_covered_ kp_law_covered_ b_law_covered_ .nil pass0 (pa_cons (pv 3) (pa_cons (pv 4) (pa_cons (pe_op op_add pe_int (pe_call G_law_take_ (hr.mono (by decide)) (by rfl) m_law_take_ kp_law_take_ b_law_take_ .nil pass0 (pa_cons (pv 3) (pa_cons pe_int pa_nil)))) pa_nil)))))
      (pss_one (ps_for PassesOwn.never rfl (pi_range3 (by rfl) B.range_ (pa_cons (pe_ix (k_ixl K rfl) (pv 5) pe_int (fun _ _ => rfl)) (pa_cons (pe_callB (k_len K rfl) (by rfl) B.len_ PySem.boot_len (pa_cons (pv 8) pa_nil)) (pa_cons (pe_callB (k_len K rfl) (by rfl) B.len_ PySem.boot_len (pa_cons (pv 4) pa_nil)) pa_nil)))) (pg_name (i := 9) sc_law.nd rfl (Or.inl rfl))
      (pss_one (ps_if (pt_not (pt_val (pe_call G_law_goes_with_ (hr.mono (by decide)) (by rfl) m_law_goes_with_ kp_law_goes_with_ b_law_goes_with_ .nil pass0 (pa_cons (pv 3) (pa_cons (pv 8) (pa_cons (pv 9) (pa_cons (pv 4) (pa_cons (pe_ix (k_ixl K rfl) (pv 5) pe_int (fun _ _ => rfl)) pa_nil)))))))) (pss_one (ps_ret pe_bl)) pss_nil))))) pss_nil))))))))))))
      (pss_one (ps_ret pe_bl)))), ?_⟩
    refine ⟨_, rfl, a, ns, rfl, hS, by omega, fun cl H1 ds s1 hcl0 hcl hdl => ?_⟩
    obtain ⟨N, hN10, eN⟩ : ∃ N : Nat, N ≤ 10 ∧ (if ((ds.map L2.V.int).length : Int) > 1 then ((ds.map L2.V.int).length : Int) else 1) = (N : Int) := by
      rw [List.length_map]
      split
      · exact ⟨ds.length, hdl, rfl⟩
      · exact ⟨1, by decide, rfl⟩
    refine ⟨_, rfl, cl, _, rfl, .inl (SqL.of hcl), _, _, rfl, (if ((ds.map L2.V.int).length : Int) > 1 then ((ds.map L2.V.int).length : Int) else 1), rfl, by rw [eN]; omega, by rw [eN]; omega, ?_⟩
    rw [eN]
    refine for_range (lo := 0) (n := _) (fun i σ H' => ∃ (c2 c3 c4 c5 c6 c7 c8 c9 : Option L2.V), σ = [some (.ref a), some (.ref cl), c2, c3, c4, c5, c6, c7, c8, c9, none] ∧ H' cl = some (.lst (ds.map .int)))
      ⟨none, none, none, none, none, none, none, none, rfl, hcl⟩ ?_ ?_
    · rintro i0 σ H1 hi ⟨c2, c3, c4, c5, c6, c7, c8, c9, rfl, hcl⟩
      have hi : i0 < N := by rw [Int.toNat_natCast] at hi; exact hi
      rw [show (0 : Int) + (i0 : Int) = (i0 : Int) from Int.zero_add _]
      refine ⟨_, rfl, _, rfl, cl, ds, i0, rfl, hcl, by omega, by omega, fun b H2 s2 hb0 b2 => ?_⟩
      have hcl2 := s2 _ _ hcl
      have nclb : cl ≠ b := ne_of_none hcl hb0
      refine ⟨_, rfl, b, 0, rfl, b2, by decide, fun v H3 W n k3 b3 hM h0 h24 => ?_⟩
      refine ⟨_, rfl, b, 6, 0 + 300000, rfl, b3, by decide, by decide, by decide, fun u HX hu k4 b4 => ⟨rfl, _, rfl, ite2 (fun _ => ?AA) (fun _ => ?BB)⟩⟩
      case' AA =>
        refine ⟨_, rfl, b, 23, 0 + 300000 + 1, rfl, b4, by decide, by decide, by decide, fun r H5 hr5 k5 b5 => ⟨_, _, rfl, rfl, 2 + r, rfl, by omega, by omega, fun v HX W s6 hM => ?_⟩⟩
        have kX := ((k3.trans k4).trans k5).same s6
        have bX : BoxOk HX b 300010 := (b5.same s6).le (by decide)
        have h0 : 0 < W.length := by rw [hM.len]; omega
        have h24 : W.length ≤ 24 := by rw [hM.len]; omega
        have hok := hM.ok
        have hdoors := hM.doors
        obtain ⟨p, rm, en, rfl, hWX⟩ := hM.web
      case' BB =>
        have kX := k3.trans k4
        have bX : BoxOk HX b 300010 := b4.le (by decide)
        have h0 : 0 < W.length := by rw [hM.len]; exact h0
        have h24 : W.length ≤ 24 := by rw [hM.len]; exact h24
        have hok := hM.ok
        have hdoors := hM.doors
        obtain ⟨p, rm, en, rfl, hWX0⟩ := hM.web
        have hWX := hWX0.tm k4.tm
      all_goals
        have mW : Mid W := ⟨h24, hdoors⟩
        have smW := mW.small
        have cW := hok.closed
        have hNN : W.length * W.length ≤ 576 := Nat.mul_le_mul h24 h24
        refine ⟨3, rfl, by decide, by decide, fun sl hsl => ?_⟩
        have nslb := kX.ne hsl
        have hsl2 := kX.free hsl
        refine lcB walk_range b (fun j H' => BoxOk H' b (300010 + j)) (fun j H z => ∃ r, r < W.length ∧ z = iv r) hsl bX.some (by decide) (fun _ _ => trivial) bX (fun j H' H'' x e => x.keep e) (fun j z H' H'' _ _ r _ => r) (fun i Hi x Hx y => yb_fn y) ?_ ?_
        · rintro j v Hi Hx Qc hj kI bI ⟨rfl, rfl⟩ _ q2
          have hj : j < 3 := hj
          have hWI := hWX.tm kI.tm
          exact ⟨rfl, _, rfl, _, rfl, p, _, rfl, .inr (SqT.of hWI.web), b, W.length, 300010 + j, by rw [roomsV_len]; rfl, bI, by omega, h0, by omega, fun r Hy hr2 kY bY => q2 _ _ kY bY ⟨r, hr2, rfl⟩⟩
        intro HS acc kS bS hA hlen hval
        have hlen : acc.length = 3 := hlen
        have bS : BoxOk HS b 300013 := bS
        obtain ⟨L, hL1, hL2⟩ := pick_list (A := fun _ z r => r < W.length ∧ z = iv r) hval
        have hL3 : L.length = 3 := by omega
        have hLx : ∀ x ∈ L, x < W.length := fun x hx => by
          obtain ⟨j, hj⟩ := List.mem_iff_getElem?.mp hx
          have hj2 : j < acc.length := by have := len_lt hj; omega
          obtain ⟨y, e1, e2, _⟩ := hL2 j _ (List.getElem?_eq_getElem hj2)
          rw [hj] at e1; cases e1; exact e2
        have hacc : acc = L.map iv := by
          apply List.ext_getElem?
          intro j
          by_cases hj : j < acc.length
          · obtain ⟨y, e1, _, e3⟩ := hL2 j _ (List.getElem?_eq_getElem hj)
            rw [get_map e1, List.getElem?_eq_getElem hj, e3]
          · rw [List.getElem?_eq_none (by omega), List.getElem?_eq_none (by simp; omega)]
        rw [hacc] at hA
        have kS2 := kX.trans kS
        have hWS := hWX.tm kS.tm
        have hx0 := hLx _ (List.mem_of_getElem? (nn_get (ns := L) (i := 0) (by omega)))
        have hx1 := hLx _ (List.mem_of_getElem? (nn_get (ns := L) (i := 1) (by omega)))
        have hx2 := hLx _ (List.mem_of_getElem? (nn_get (ns := L) (i := 2) (by omega)))
        have at0 : atI (L.map iv) 0 = some (iv (nn L 0)) := nn_at (i := 0) (by omega)
        have at1 : atI (L.map iv) 1 = some (iv (nn L 1)) := nn_at (i := 1) (by omega)
        have at2 : atI (L.map iv) 2 = some (iv (nn L 2)) := nn_at (i := 2) (by omega)
        refine ⟨_, rfl, _, rfl, p, sl, W, rm, en, L, rfl, hWS, cW, smW, by omega, hA, hL3, hLx, fun HT sT => ⟨true, rfl, iteF ?_⟩⟩
        have kT := kS2.same sT
        have hWT := hWS.tm (Tm.of sT)
        have hslT := sT _ _ hA
        have bT := bS.same sT
        refine ⟨_, rfl, sl, rfl, ⟨_, SqL.of hslT⟩, fun E hE => ?_⟩
        refine lcB walk_list b (fun j H' => BoxOk H' b (300013 + 1000 * j)) (fun _ _ z => z = .bl true) hE bT.some (by rw [List.length_map]; omega) (fun H' kk => SqL.of (kk.keep _ _ hslT nslb)) bT (fun j H' H'' x e => x.keep e) (fun j z H' H'' _ _ r _ => r) (fun i Hi x Hx y => yb_at y) ?_ ?_
        · rintro j v Hi Hx Qc hj kI bI ⟨rfl, hx⟩ _ q2
          obtain ⟨x, hx', rfl⟩ := map_get hx
          have hj3 : j < 3 := by have := len_lt hx'; omega
          have hxW := hLx x (List.mem_of_getElem? hx')
          have hWI := hWT.tm kI.tm
          exact ⟨rfl, _, rfl, _, rfl, _, rfl, sl, _, _, _, rfl, rfl, SqL.of (kI.keep _ _ hslT nslb), at0, _, rfl, b, p, W, rm, en, nn L 0, x, 300013 + 1000 * j, rfl, bI, hWI, cW, smW, by omega, hx0, hxW, by omega, fun Hy kY bY => q2 _ _ kY bY rfl⟩
        intro HA acc2 kA bA hA2 hlen2 hval2
        rw [List.length_map, hL3] at bA
        have ea2 := bls_of (f := fun _ => true) hlen2 hval2
        refine ⟨E, _, rfl, SqL.of (by rw [hA2, ea2]), _, rfl, ?_⟩
        rw [all_rg, decide_eq_true (fun _ _ => rfl)]
        refine iteF ?_
        have kA2 := kT.trans kA
        have hWA := hWT.tm kA.tm
        have hslA := kA.keep _ _ hslT nslb
        refine ⟨_, rfl, _, rfl, b, p, W, rm, en, 300013 + 1000 * 3, rfl, bA, hWA, cW, smW, by decide, fun t wv q HR W' π kR bR ht hq hWV hπ hR => ?_⟩
        refine ⟨t, _, rfl, SqT.of ht, rfl, _, _, rfl, _, _, rfl, rfl, ?_⟩
        obtain ⟨p', rm', en', rfl, hW'⟩ := hWV
        have kR2 := kA2.trans kR
        have hWR := hWA.tm kR.tm
        have hslR := kR.keep _ _ hslA nslb
        have hlW' := hR.len
        have cW' : Closed W' := ⟨fun x d hd => by
          have hx := lt_of_deg hd
          rw [hlW'] at hx
          obtain ⟨r, hr, rfl⟩ := hπ.surj x hx
          rw [hR.deg r hr] at hd
          rw [hR.nxt r d hd, hlW']
          exact hπ.lt _ (cW.lt r d hd)⟩
        have smW' : Small W' := ⟨by rw [hlW']; omega, fun x => by
          by_cases hx : x < W'.length
          · rw [hlW'] at hx
            obtain ⟨r, hr, rfl⟩ := hπ.surj x hx
            rw [hR.deg r hr]
            exact smW.doors r
          · have : deg W' x = 0 := by unfold deg; rw [List.getD_eq_getElem?_getD, List.getElem?_eq_none (by omega)]; rfl
            omega⟩
        have hπ1 := hπ.lt _ hx1
        have hlkS : ∀ k, Lk W W' (some (nn L 1)) (some (nn π (nn L 1))) k (nn L 1) (nn π (nn L 1)) := fun k => lk_ren (nu := nn π) cW hR.deg hR.nxt hπ.inj hx1 k _ hx1
        have hnew : atI (π.map iv) ((nn L 1 : Nat) : Int) = some (iv (nn π (nn L 1))) := nn_at (by rw [hπ.len]; exact hx1)
        have two : ∀ {H' : Hp}, WebH H' p W rm en → WebH H' p' W' rm' en' → TwoH H' p W rm en (nn L 1) p' W' rm' en' (nn π (nn L 1)) := fun h g => ⟨h, g, cW, cW', smW, smW', by rw [hlW']; omega, hx1, by rw [hlW']; exact hπ1⟩
        refine ⟨_, rfl, _, rfl, _, rfl, sl, _, _, _, rfl, rfl, SqL.of hslR, at1, _, rfl, _, rfl, _, rfl, sl, _, _, _, rfl, rfl, SqL.of hslR, at1, q, _, _, _, rfl, rfl, SqT.of hq, hnew, b, p, W, rm, en, nn L 1, p', W', rm', en', nn π (nn L 1), 300013 + 1000 * 3 + 1000, rfl, bR, two hWR hW', fun k => (hlkS k).bare, by decide, fun HG kG bG => ⟨true, rfl, iteF ?_⟩⟩
        have kG2 := kR2.trans kG
        have hWG := hWR.tm kG.tm
        have hWG' := hW'.tm kG.tm
        have hslG := kG.keep _ _ hslR nslb
        have hqG := kG.tm _ _ hq
        refine ⟨_, rfl, _, rfl, sl, _, _, _, rfl, rfl, SqL.of hslG, at1, _, rfl, _, rfl, _, rfl, sl, _, _, _, rfl, rfl, SqL.of hslG, at1, q, _, _, _, rfl, rfl, SqT.of hqG, hnew, p, W, rm, en, nn L 1, p', W', rm', en', nn π (nn L 1), rfl, two hWG hWG', fun vP HP sP hvP => ?_⟩
        rw [lk_none cW cW' hx1 (by rw [hlW']; exact hπ1) hlkS] at hvP
        have hvP : vP = .non := hvP
        subst hvP
        refine ⟨rfl, _, rfl, iteNT rfl ?_⟩
        have kP := kG2.same sP
        have hWP := hWG.tm (Tm.of sP)
        have hslP := sP _ _ hslG
        have bP := bG.same sP
        refine ⟨_, rfl, p, _, rfl, .inr (SqT.of hWP.web), _, _, rfl, rfl, _, rfl, ite2 (fun e8 => ?_) (fun _ => ?_)⟩
        · have h8 : W.length < 8 := by
            have := of_decide_eq_true e8
            rw [roomsV_len] at this
            omega
          refine ⟨_, rfl, _, rfl, _, rfl, b, 2, 300013 + 1000 * 3 + 1000 + 1000, rfl, bP, by decide, by decide, by decide, fun y HY hy kY bY => ⟨_, _, rfl, rfl, ?_⟩⟩
          have hm2 : (2 + y) * W.length ≤ 24 := Nat.le_trans (Nat.mul_le_mul (show 2 + y ≤ 3 by omega) (show W.length ≤ 7 by omega)) (by decide)
          have hWY := hWP.tm kY.tm
          refine ⟨b, p, W, rm, en, 2 + y, 300013 + 1000 * 3 + 1000 + 1000 + 1, rfl, bY, hWY, hok, mW, h0, by omega, hm2, by decide, fun vv HC V nV kC bC hMV hnV0 hnV hcov => ?_⟩
          obtain ⟨pv', rv, ev, rfl, hV⟩ := hMV.web
          have hVl := hMV.len
          have kC2 := (kP.trans kY).trans kC
          have hWC := hWY.tm kC.tm
          have hslC := kC.keep _ _ (kY.keep _ _ hslP nslb) nslb
          obtain ⟨m, hrg, hrl⟩ := rgc_up (a := (nn L 2 : Int)) (b := ((roomsV V rv).length : Int)) (c := ((roomsV W rm).length : Int)) ⟨by omega, by omega⟩ ⟨by omega, by rw [roomsV_len]; omega⟩ ⟨by rw [roomsV_len]; omega, by rw [roomsV_len]; omega⟩
          rw [roomsV_len, roomsV_len] at hrl
          have hm24 : ∀ i : Nat, i < m → i < 24 := fun i hi => by
            have h1 := hrl i hi
            have h2 : (i : Int) * 1 ≤ (i : Int) * (W.length : Int) := Int.mul_le_mul_of_nonneg_left (by omega) (by omega)
            omega
          refine ⟨_, rfl, sl, _, _, _, rfl, rfl, SqL.of hslC, at2, _, rfl, pv', _, rfl, .inr (SqT.of hV.web), _, rfl, p, _, rfl, .inr (SqT.of hWC.web), _, _, _, m, rfl, hrg, for_rangeC (n := m) (fun i σ H' => ∃ (c9 : Option L2.V), σ = [some (.ref a), some (.ref cl), some (iv i0), some (.ref b), some (.ref p), some (.ref sl), some (.ref p'), some (.ref q), some (.ref pv'), c9, none] ∧ BK b HC H' ∧ BoxOk H' b (600000 + 1000 * i))
            ⟨_, rfl, BK.refl bC.some, bC.le (by decide)⟩ ?_ ?_⟩
          · rintro i σ HI hi ⟨c9, rfl, kI, bI⟩
            have hi24 := hm24 i hi
            have hlt := hrl i hi
            have hroom : (nn L 2 : Int) + (i : Nat) * ((roomsV W rm).length : Int) = ((nn L 2 + i * W.length : Nat) : Int) := by rw [roomsV_len, Int.natCast_add, Int.natCast_mul]
            rw [hroom]
            have hxV : nn L 2 + i * W.length < V.length := by
              have e : ((nn L 2 + i * W.length : Nat) : Int) = (nn L 2 : Int) + (i : Int) * (W.length : Int) := by rw [Int.natCast_add, Int.natCast_mul]
              omega
            have hmod : (nn L 2 + i * W.length) % W.length = nn L 2 := by rw [Nat.add_mul_mod_self_right, Nat.mod_eq_of_lt hx2]
            have hlk : ∀ k, Lk V W none none k (nn L 2 + i * W.length) (nn L 2) := fun k => by
              have := hcov.lk k _ hxV
              rw [hmod] at this
              exact this
            have hslI := kI.keep _ _ hslC nslb
            have smV : Small V := ⟨by omega, fun r => by have := hMV.doors r; omega⟩
            have hNV : V.length * W.length ≤ 576 := by rw [hVl]; exact Nat.mul_le_mul hnV h24
            refine ⟨_, rfl, _, rfl, _, rfl, _, rfl, _, rfl, sl, _, _, _, rfl, rfl, SqL.of hslI, at2, b, pv', V, rv, ev, nn L 2 + i * W.length, p, W, rm, en, nn L 2, 600000 + 1000 * i, rfl, bI, ⟨hV.tm kI.tm, hWC.tm kI.tm, hMV.ok.closed, cW, smV, smW, by omega, hxV, hx2⟩, hlk, by omega, fun HG kG bG => ⟨true, rfl, iteF ?_⟩⟩
            exact ⟨_, rfl, kI.trans kG, bG.le (by omega)⟩
          · rintro σ HI ⟨c9, rfl, kI, bI⟩
            exact ⟨_, _, _, _, _, _, _, _, rfl, kI.keep _ _ (kC2.keep _ _ hcl2 nclb) nclb⟩
        · exact ⟨_, _, _, _, _, _, _, _, rfl, kP.keep _ _ hcl2 nclb⟩
    · rintro σ H' ⟨c2, c3, c4, c5, c6, c7, c8, c9, rfl, _⟩
      exact k H'
end
end K18
namespace K18
open PySem PySem.Spec PyProof.Rows L2
section
variable {P : Program} {w : World} {K : PySem.W.Frag} {mg : Str → Option Value} {base : Heap}
/-! what the top has written -/
/-- a def among the things written -/
structure DefIs (K : PySem.W.Frag) (x : Str) (st : Stmt) : Prop where
  ex : ∃ (f : Addr) (od an : Option Addr) (sl : Array (Option Value)) (oc kV dc pm cd ct : Value), PySem.W.nsIn K mainGlobals x = some (some (.ref f)) ∧
    K.lookup f = some ⟨oc, od, .func (PySem.W.fnOf x x (defArgs st) (defBody st) (defScope st) .none kV dc pm an cd ct), sl⟩ ∧ PySem.W.codeIn K cd x = true ∧ PySem.W.keepIn K (.ref f) = true
theorem DefIs.mk' {K : PySem.W.Frag} {x : Str} {st : Stmt} {f : Addr} {od an : Option Addr} {sl : Array (Option Value)} {oc kV dc pm cd ct : Value} (a : PySem.W.nsIn K mainGlobals x = some (some (.ref f)))
    (l : K.lookup f = some ⟨oc, od, .func (PySem.W.fnOf x x (defArgs st) (defBody st) (defScope st) .none kV dc pm an cd ct), sl⟩) (c : PySem.W.codeIn K cd x = true) (k : PySem.W.keepIn K (.ref f) = true) : DefIs K x st :=
  ⟨f, od, an, sl, oc, kV, dc, pm, cd, ct, a, l, c, k⟩
theorem DefIs.top {K : PySem.W.Frag} {mg : Str → Option Value} {h : Heap} {x : Str} {st : Stmt} (X : K.In h) (G : h.Ns mainGlobals mg) (d : DefIs K x st) : Top K mg x st := by
  obtain ⟨f, od, an, sl, oc, kV, dc, pm, cd, ct, a, l, c, k⟩ := d.ex
  exact ⟨f, _, fun_mk l c k, PySem.W.mg_of X G a⟩
theorem all_mk {l : PySem.W.OpenLaw} {w : World} {K : PySem.W.Frag} {h : Heap} {mg : Str → Option Value} {fa f2 : Addr} (X : K.In h) (G : h.Ns mainGlobals mg) (hfa : mg "law" = some (.ref fa))
    {od2 an2 : Option Addr} {sl2 : Array (Option Value)} {oc2 kV2 dc2 pm2 cd2 ct2 : Value}
    (a2 : PySem.W.nsIn K mainGlobals "law" = some (some (.ref f2))) (l2 : K.lookup f2 = some ⟨oc2, od2, .func (PySem.W.fnOf "law" "law" (defArgs s_law) (defBody s_law) (defScope s_law) .none kV2 dc2 pm2 an2 cd2 ct2), sl2⟩) (c2 : PySem.W.codeIn K cd2 "law" = true) (k2 : PySem.W.keepIn K (.ref f2) = true)
    (D_numbered_looks : DefIs K "numbered_looks" s_numbered_looks)
    (D_finer_looks : DefIs K "finer_looks" s_finer_looks)
    (D_alike_by : DefIs K "alike_by" s_alike_by)
    (D_kinds_by : DefIs K "kinds_by" s_kinds_by)
    (D_kinds : DefIs K "kinds" s_kinds)
    (D_seen : DefIs K "seen" s_seen)
    (D_sight_behind : DefIs K "sight_behind" s_sight_behind)
    (D_least_parting : DefIs K "least_parting" s_least_parting)
    (D_parting : DefIs K "parting" s_parting)
    (D_parting_with_stone : DefIs K "parting_with_stone" s_parting_with_stone)
    (D_is_door_number : DefIs K "is_door_number" s_is_door_number)
    (D_is_way : DefIs K "is_way" s_is_way)
    (D_shows_parting : DefIs K "shows_parting" s_shows_parting)
    (D_pairs_behind : DefIs K "pairs_behind" s_pairs_behind)
    (D_pairing : DefIs K "pairing" s_pairing)
    (D_is_room_of : DefIs K "is_room_of" s_is_room_of)
    (D_is_pair_of : DefIs K "is_pair_of" s_is_pair_of)
    (D_goes_along : DefIs K "goes_along" s_goes_along)
    (D_shows_pairing : DefIs K "shows_pairing" s_shows_pairing)
    (D_law_box : DefIs K "_law_box" s_law_box)
    (D_law_take : DefIs K "_law_take" s_law_take)
    (D_law_folded : DefIs K "_law_folded" s_law_folded)
    (D_law_joined : DefIs K "_law_joined" s_law_joined)
    (D_law_doors_put : DefIs K "_law_doors_put" s_law_doors_put)
    (D_law_web : DefIs K "_law_web" s_law_web)
    (D_law_ring : DefIs K "_law_ring" s_law_ring)
    (D_law_ends : DefIs K "_law_ends" s_law_ends)
    (D_law_reached : DefIs K "_law_reached" s_law_reached)
    (D_law_sheeted : DefIs K "_law_sheeted" s_law_sheeted)
    (D_law_turn : DefIs K "_law_turn" s_law_turn)
    (D_law_covered : DefIs K "_law_covered" s_law_covered)
    (D_law_any_web : DefIs K "_law_any_web" s_law_any_web)
    (D_law_renamed : DefIs K "_law_renamed" s_law_renamed)
    (D_law_way : DefIs K "_law_way" s_law_way)
    (D_law_line : DefIs K "_law_line" s_law_line)
    (D_law_any_way : DefIs K "_law_any_way" s_law_any_way)
    (D_law_two_right : DefIs K "_law_two_right" s_law_two_right)
    (D_law_seen_alike : DefIs K "_law_seen_alike" s_law_seen_alike)
    (D_law_third : DefIs K "_law_third" s_law_third)
    (D_law_goes_with : DefIs K "_law_goes_with" s_law_goes_with)
    (z_len : PySem.W.nsIn K mainGlobals "len" = some none) (z_range : PySem.W.nsIn K mainGlobals "range" = some none) (z_tuple : PySem.W.nsIn K mainGlobals "tuple" = some none) (z_list : PySem.W.nsIn K mainGlobals "list" = some none) (z_dict : PySem.W.nsIn K mainGlobals "dict" = some none) (z_zip : PySem.W.nsIn K mainGlobals "zip" = some none) (z_enumerate : PySem.W.nsIn K mainGlobals "enumerate" = some none) (z_sorted : PySem.W.nsIn K mainGlobals "sorted" = some none) (z_isinstance : PySem.W.nsIn K mainGlobals "isinstance" = some none) (z_int : PySem.W.nsIn K mainGlobals "int" = some none) (z_bool : PySem.W.nsIn K mainGlobals "bool" = some none) (z_abs : PySem.W.nsIn K mainGlobals "abs" = some none) (z_divmod : PySem.W.nsIn K mainGlobals "divmod" = some none) (z_max : PySem.W.nsIn K mainGlobals "max" = some none) (z_min : PySem.W.nsIn K mainGlobals "min" = some none) (z_any : PySem.W.nsIn K mainGlobals "any" = some none) (z_all : PySem.W.nsIn K mainGlobals "all" = some none) :
    ∃ fd : FuncData, (∀ (s : Shared) (v : Value), BindsTo s fd ⟨[v], []⟩ [("_law_script", v)]) ∧ ∀ base : Heap, K.In base → base.Ns mainGlobals mg → FnOk l.prog w K mg base CX0 6 fa fd ["_law_script"] (spLaw K) := by
  have e := hfa.symm.trans (PySem.W.mg_of X G a2)
  cases e
  have F2 := fun_mk (st := s_law) l2 c2 k2
  have B : Bt mg := ⟨PySem.W.mg_none_of X G z_len, PySem.W.mg_none_of X G z_range, PySem.W.mg_none_of X G z_tuple, PySem.W.mg_none_of X G z_list, PySem.W.mg_none_of X G z_dict, PySem.W.mg_none_of X G z_zip, PySem.W.mg_none_of X G z_enumerate, PySem.W.mg_none_of X G z_sorted, PySem.W.mg_none_of X G z_isinstance, PySem.W.mg_none_of X G z_int, PySem.W.mg_none_of X G z_bool, PySem.W.mg_none_of X G z_abs, PySem.W.mg_none_of X G z_divmod, PySem.W.mg_none_of X G z_max, PySem.W.mg_none_of X G z_min, PySem.W.mg_none_of X G z_any, PySem.W.mg_none_of X G z_all⟩
  refine ⟨PySem.W.fnOf "law" "law" (defArgs s_law) (defBody s_law) (defScope s_law) .none kV2 dc2 pm2 an2 cd2 ct2, fun s v => .of_eq rfl, fun base _ _ => ?_⟩
  have h_seen := has_seen (P := l.prog) (w := w) (base := base) B (D_seen.top X G)
  have h_sight := has_sight (P := l.prog) (w := w) (base := base) B (D_sight_behind.top X G)
  have h_least := has_least (P := l.prog) (w := w) (base := base) B (D_least_parting.top X G) h_sight
  have h_parting := has_parting (P := l.prog) (w := w) (base := base) B (D_parting.top X G) h_least
  have h_stoned := has_stoned (P := l.prog) (w := w) (base := base) B (D_parting_with_stone.top X G) h_least
  have h_door := has_door (P := l.prog) (w := w) (base := base) B (D_is_door_number.top X G)
  have h_isway := has_isway (P := l.prog) (w := w) (base := base) B (D_is_way.top X G) h_door
  have h_showsp := has_showsp (P := l.prog) (w := w) (base := base) B (D_shows_parting.top X G) h_isway h_seen h_parting
  have h_behind := has_behind (P := l.prog) (w := w) (base := base) B (D_pairs_behind.top X G)
  have h_pairing := has_pairing (P := l.prog) (w := w) (base := base) B (D_pairing.top X G) h_parting h_behind
  have h_roomof := has_roomof (P := l.prog) (w := w) (base := base) B (D_is_room_of.top X G)
  have h_pairof := has_pairof (P := l.prog) (w := w) (base := base) B (D_is_pair_of.top X G) h_roomof
  have h_goes := has_goes (P := l.prog) (w := w) (base := base) B (D_goes_along.top X G) h_behind
  have h_spL := has_showpairsL (P := l.prog) (w := w) (base := base) B (D_shows_pairing.top X G) h_pairof h_goes
  have h_spT := has_showpairsT (P := l.prog) (w := w) (base := base) B (D_shows_pairing.top X G) h_pairof h_goes
  have h_numK := has_numK (P := l.prog) (w := w) (base := base) B (D_numbered_looks.top X G)
  have h_numN := has_numN (P := l.prog) (w := w) (base := base) B (D_numbered_looks.top X G)
  have h_finer := has_finer (P := l.prog) (w := w) (base := base) B (D_finer_looks.top X G)
  have h_alike := has_alike (P := l.prog) (w := w) (base := base) B (D_alike_by.top X G) h_numK h_numN h_finer
  have h_kindsby := has_kindsby (P := l.prog) (w := w) (base := base) B (D_kinds_by.top X G) h_alike
  have h_kinds := has_kinds (P := l.prog) (w := w) (base := base) B (D_kinds.top X G) h_kindsby
  have h_box := has_box (P := l.prog) (w := w) (base := base) B (D_law_box.top X G)
  have h_take := has_take (P := l.prog) (w := w) (base := base) B (D_law_take.top X G)
  have h_folded := has_folded (P := l.prog) (w := w) (base := base) B (D_law_folded.top X G)
  have h_turn := has_turn (P := l.prog) (w := w) (base := base) B (D_law_turn.top X G) h_take
  have h_ring := has_ring (P := l.prog) (w := w) (base := base) B (D_law_ring.top X G)
  have h_line := has_line (P := l.prog) (w := w) (base := base) B (D_law_line.top X G)
  have h_way := has_way (P := l.prog) (w := w) (base := base) B (D_law_way.top X G) h_take
  have h_anyway := has_anyway (P := l.prog) (w := w) (base := base) B (D_law_any_way.top X G) h_take h_way
  have h_renamed := has_renamed (P := l.prog) (w := w) (base := base) B (D_law_renamed.top X G) h_turn
  have h_joined := has_joined (P := l.prog) (w := w) (base := base) B (D_law_joined.top X G)
  have h_put := has_put (P := l.prog) (w := w) (base := base) B (D_law_doors_put.top X G) h_take h_joined
  have h_web := has_web (P := l.prog) (w := w) (base := base) B (D_law_web.top X G) h_take h_put
  have h_ends := has_ends (P := l.prog) (w := w) (base := base) B (D_law_ends.top X G)
  have h_reached := has_reached (P := l.prog) (w := w) (base := base) B (D_law_reached.top X G)
  have h_sheeted := has_sheeted (P := l.prog) (w := w) (base := base) B (D_law_sheeted.top X G) h_ends
  have h_covered := has_covered (P := l.prog) (w := w) (base := base) B (D_law_covered.top X G) h_ends h_turn h_sheeted h_reached
  have h_anyweb := has_anyweb (P := l.prog) (w := w) (base := base) B (D_law_any_web.top X G) h_take h_web h_ring h_covered
  have h_seenalike := has_seenalike (P := l.prog) (w := w) (base := base) B (D_law_seen_alike.top X G) h_anyway h_seen
  have h_third := has_third (P := l.prog) (w := w) (base := base) B (D_law_third.top X G) h_parting
  have h_goeswith := has_goeswith (P := l.prog) (w := w) (base := base) B (D_law_goes_with.top X G) h_pairing h_parting h_spT h_seenalike
  have h_tworight := has_tworight (P := l.prog) (w := w) (base := base) B (D_law_two_right.top X G) h_parting h_pairing h_kinds h_stoned h_spL h_seenalike h_seen h_showsp h_kindsby
  exact ok_law B F2 h_folded h_box h_anyweb h_take h_line h_third h_tworight h_renamed h_goeswith h_stoned h_covered
end
end K18
open PySem PySem.W PyProof.Rows
set_option maxHeartbeats 0 in
theorem PySem.Challenge.cw_stonewalker_k18_whole_alike_and_apart_holds : PySem.Challenge.rw_stonewalker_k18_whole_alike_and_apart.Holds := by
  w_on; o_law; k_head; (case hw => w_witness2)
  k_fill
  refine L2.walk_of (l := PySem.Challenge.rw_stonewalker_k18_whole_alike_and_apart) (n := 63) (k := 6) (x := "_law_script") (CX := fun _ => L2.CX0) (sp := fun w => K18.spLaw _) rfl (by decide) rfl ⟨rfl, by decide, by decide⟩ (fun w h Y => PySem.W.kIn_of Y) ?F (fun _ _ a ns hl _ hS => ⟨a, ns, rfl, hS, hl, fun _ => rfl⟩) (fun _ _ _ _ _ h => h)
  case F =>
    intro w mg fa h KX G hmg
    refine' K18.all_mk KX G hmg ?a2 ?l2 ?c2 ?k2 ?d_numbered_looks ?d_finer_looks ?d_alike_by ?d_kinds_by ?d_kinds ?d_seen ?d_sight_behind ?d_least_parting ?d_parting ?d_parting_with_stone ?d_is_door_number ?d_is_way ?d_shows_parting ?d_pairs_behind ?d_pairing ?d_is_room_of ?d_is_pair_of ?d_goes_along ?d_shows_pairing ?d_law_box ?d_law_take ?d_law_folded ?d_law_joined ?d_law_doors_put ?d_law_web ?d_law_ring ?d_law_ends ?d_law_reached ?d_law_sheeted ?d_law_turn ?d_law_covered ?d_law_any_web ?d_law_renamed ?d_law_way ?d_law_line ?d_law_any_way ?d_law_two_right ?d_law_seen_alike ?d_law_third ?d_law_goes_with ?z_len ?z_range ?z_tuple ?z_list ?z_dict ?z_zip ?z_enumerate ?z_sorted ?z_isinstance ?z_int ?z_bool ?z_abs ?z_divmod ?z_max ?z_min ?z_any ?z_all
    (case a2 => k_is); (case l2 => k_is); (case c2 => k_is); (case k2 => k_is)
    (case d_numbered_looks => refine' K18.DefIs.mk' ?a_numbered_looks ?l_numbered_looks ?c_numbered_looks ?k_numbered_looks; (case a_numbered_looks => k_is); (case l_numbered_looks => k_is); (case c_numbered_looks => k_is); (case k_numbered_looks => k_is))
    (case d_finer_looks => refine' K18.DefIs.mk' ?a_finer_looks ?l_finer_looks ?c_finer_looks ?k_finer_looks; (case a_finer_looks => k_is); (case l_finer_looks => k_is); (case c_finer_looks => k_is); (case k_finer_looks => k_is))
    (case d_alike_by => refine' K18.DefIs.mk' ?a_alike_by ?l_alike_by ?c_alike_by ?k_alike_by; (case a_alike_by => k_is); (case l_alike_by => k_is); (case c_alike_by => k_is); (case k_alike_by => k_is))
    (case d_kinds_by => refine' K18.DefIs.mk' ?a_kinds_by ?l_kinds_by ?c_kinds_by ?k_kinds_by; (case a_kinds_by => k_is); (case l_kinds_by => k_is); (case c_kinds_by => k_is); (case k_kinds_by => k_is))
    (case d_kinds => refine' K18.DefIs.mk' ?a_kinds ?l_kinds ?c_kinds ?k_kinds; (case a_kinds => k_is); (case l_kinds => k_is); (case c_kinds => k_is); (case k_kinds => k_is))
    (case d_seen => refine' K18.DefIs.mk' ?a_seen ?l_seen ?c_seen ?k_seen; (case a_seen => k_is); (case l_seen => k_is); (case c_seen => k_is); (case k_seen => k_is))
    (case d_sight_behind => refine' K18.DefIs.mk' ?a_sight_behind ?l_sight_behind ?c_sight_behind ?k_sight_behind; (case a_sight_behind => k_is); (case l_sight_behind => k_is); (case c_sight_behind => k_is); (case k_sight_behind => k_is))
    (case d_least_parting => refine' K18.DefIs.mk' ?a_least_parting ?l_least_parting ?c_least_parting ?k_least_parting; (case a_least_parting => k_is); (case l_least_parting => k_is); (case c_least_parting => k_is); (case k_least_parting => k_is))
    (case d_parting => refine' K18.DefIs.mk' ?a_parting ?l_parting ?c_parting ?k_parting; (case a_parting => k_is); (case l_parting => k_is); (case c_parting => k_is); (case k_parting => k_is))
    (case d_parting_with_stone => refine' K18.DefIs.mk' ?a_parting_with_stone ?l_parting_with_stone ?c_parting_with_stone ?k_parting_with_stone; (case a_parting_with_stone => k_is); (case l_parting_with_stone => k_is); (case c_parting_with_stone => k_is); (case k_parting_with_stone => k_is))
    (case d_is_door_number => refine' K18.DefIs.mk' ?a_is_door_number ?l_is_door_number ?c_is_door_number ?k_is_door_number; (case a_is_door_number => k_is); (case l_is_door_number => k_is); (case c_is_door_number => k_is); (case k_is_door_number => k_is))
    (case d_is_way => refine' K18.DefIs.mk' ?a_is_way ?l_is_way ?c_is_way ?k_is_way; (case a_is_way => k_is); (case l_is_way => k_is); (case c_is_way => k_is); (case k_is_way => k_is))
    (case d_shows_parting => refine' K18.DefIs.mk' ?a_shows_parting ?l_shows_parting ?c_shows_parting ?k_shows_parting; (case a_shows_parting => k_is); (case l_shows_parting => k_is); (case c_shows_parting => k_is); (case k_shows_parting => k_is))
    (case d_pairs_behind => refine' K18.DefIs.mk' ?a_pairs_behind ?l_pairs_behind ?c_pairs_behind ?k_pairs_behind; (case a_pairs_behind => k_is); (case l_pairs_behind => k_is); (case c_pairs_behind => k_is); (case k_pairs_behind => k_is))
    (case d_pairing => refine' K18.DefIs.mk' ?a_pairing ?l_pairing ?c_pairing ?k_pairing; (case a_pairing => k_is); (case l_pairing => k_is); (case c_pairing => k_is); (case k_pairing => k_is))
    (case d_is_room_of => refine' K18.DefIs.mk' ?a_is_room_of ?l_is_room_of ?c_is_room_of ?k_is_room_of; (case a_is_room_of => k_is); (case l_is_room_of => k_is); (case c_is_room_of => k_is); (case k_is_room_of => k_is))
    (case d_is_pair_of => refine' K18.DefIs.mk' ?a_is_pair_of ?l_is_pair_of ?c_is_pair_of ?k_is_pair_of; (case a_is_pair_of => k_is); (case l_is_pair_of => k_is); (case c_is_pair_of => k_is); (case k_is_pair_of => k_is))
    (case d_goes_along => refine' K18.DefIs.mk' ?a_goes_along ?l_goes_along ?c_goes_along ?k_goes_along; (case a_goes_along => k_is); (case l_goes_along => k_is); (case c_goes_along => k_is); (case k_goes_along => k_is))
    (case d_shows_pairing => refine' K18.DefIs.mk' ?a_shows_pairing ?l_shows_pairing ?c_shows_pairing ?k_shows_pairing; (case a_shows_pairing => k_is); (case l_shows_pairing => k_is); (case c_shows_pairing => k_is); (case k_shows_pairing => k_is))
    (case d_law_box => refine' K18.DefIs.mk' ?a_law_box ?l_law_box ?c_law_box ?k_law_box; (case a_law_box => k_is); (case l_law_box => k_is); (case c_law_box => k_is); (case k_law_box => k_is))
    (case d_law_take => refine' K18.DefIs.mk' ?a_law_take ?l_law_take ?c_law_take ?k_law_take; (case a_law_take => k_is); (case l_law_take => k_is); (case c_law_take => k_is); (case k_law_take => k_is))
    (case d_law_folded => refine' K18.DefIs.mk' ?a_law_folded ?l_law_folded ?c_law_folded ?k_law_folded; (case a_law_folded => k_is); (case l_law_folded => k_is); (case c_law_folded => k_is); (case k_law_folded => k_is))
    (case d_law_joined => refine' K18.DefIs.mk' ?a_law_joined ?l_law_joined ?c_law_joined ?k_law_joined; (case a_law_joined => k_is); (case l_law_joined => k_is); (case c_law_joined => k_is); (case k_law_joined => k_is))
    (case d_law_doors_put => refine' K18.DefIs.mk' ?a_law_doors_put ?l_law_doors_put ?c_law_doors_put ?k_law_doors_put; (case a_law_doors_put => k_is); (case l_law_doors_put => k_is); (case c_law_doors_put => k_is); (case k_law_doors_put => k_is))
    (case d_law_web => refine' K18.DefIs.mk' ?a_law_web ?l_law_web ?c_law_web ?k_law_web; (case a_law_web => k_is); (case l_law_web => k_is); (case c_law_web => k_is); (case k_law_web => k_is))
    (case d_law_ring => refine' K18.DefIs.mk' ?a_law_ring ?l_law_ring ?c_law_ring ?k_law_ring; (case a_law_ring => k_is); (case l_law_ring => k_is); (case c_law_ring => k_is); (case k_law_ring => k_is))
    (case d_law_ends => refine' K18.DefIs.mk' ?a_law_ends ?l_law_ends ?c_law_ends ?k_law_ends; (case a_law_ends => k_is); (case l_law_ends => k_is); (case c_law_ends => k_is); (case k_law_ends => k_is))
    (case d_law_reached => refine' K18.DefIs.mk' ?a_law_reached ?l_law_reached ?c_law_reached ?k_law_reached; (case a_law_reached => k_is); (case l_law_reached => k_is); (case c_law_reached => k_is); (case k_law_reached => k_is))
    (case d_law_sheeted => refine' K18.DefIs.mk' ?a_law_sheeted ?l_law_sheeted ?c_law_sheeted ?k_law_sheeted; (case a_law_sheeted => k_is); (case l_law_sheeted => k_is); (case c_law_sheeted => k_is); (case k_law_sheeted => k_is))
    (case d_law_turn => refine' K18.DefIs.mk' ?a_law_turn ?l_law_turn ?c_law_turn ?k_law_turn; (case a_law_turn => k_is); (case l_law_turn => k_is); (case c_law_turn => k_is); (case k_law_turn => k_is))
    (case d_law_covered => refine' K18.DefIs.mk' ?a_law_covered ?l_law_covered ?c_law_covered ?k_law_covered; (case a_law_covered => k_is); (case l_law_covered => k_is); (case c_law_covered => k_is); (case k_law_covered => k_is))
    (case d_law_any_web => refine' K18.DefIs.mk' ?a_law_any_web ?l_law_any_web ?c_law_any_web ?k_law_any_web; (case a_law_any_web => k_is); (case l_law_any_web => k_is); (case c_law_any_web => k_is); (case k_law_any_web => k_is))
    (case d_law_renamed => refine' K18.DefIs.mk' ?a_law_renamed ?l_law_renamed ?c_law_renamed ?k_law_renamed; (case a_law_renamed => k_is); (case l_law_renamed => k_is); (case c_law_renamed => k_is); (case k_law_renamed => k_is))
    (case d_law_way => refine' K18.DefIs.mk' ?a_law_way ?l_law_way ?c_law_way ?k_law_way; (case a_law_way => k_is); (case l_law_way => k_is); (case c_law_way => k_is); (case k_law_way => k_is))
    (case d_law_line => refine' K18.DefIs.mk' ?a_law_line ?l_law_line ?c_law_line ?k_law_line; (case a_law_line => k_is); (case l_law_line => k_is); (case c_law_line => k_is); (case k_law_line => k_is))
    (case d_law_any_way => refine' K18.DefIs.mk' ?a_law_any_way ?l_law_any_way ?c_law_any_way ?k_law_any_way; (case a_law_any_way => k_is); (case l_law_any_way => k_is); (case c_law_any_way => k_is); (case k_law_any_way => k_is))
    (case d_law_two_right => refine' K18.DefIs.mk' ?a_law_two_right ?l_law_two_right ?c_law_two_right ?k_law_two_right; (case a_law_two_right => k_is); (case l_law_two_right => k_is); (case c_law_two_right => k_is); (case k_law_two_right => k_is))
    (case d_law_seen_alike => refine' K18.DefIs.mk' ?a_law_seen_alike ?l_law_seen_alike ?c_law_seen_alike ?k_law_seen_alike; (case a_law_seen_alike => k_is); (case l_law_seen_alike => k_is); (case c_law_seen_alike => k_is); (case k_law_seen_alike => k_is))
    (case d_law_third => refine' K18.DefIs.mk' ?a_law_third ?l_law_third ?c_law_third ?k_law_third; (case a_law_third => k_is); (case l_law_third => k_is); (case c_law_third => k_is); (case k_law_third => k_is))
    (case d_law_goes_with => refine' K18.DefIs.mk' ?a_law_goes_with ?l_law_goes_with ?c_law_goes_with ?k_law_goes_with; (case a_law_goes_with => k_is); (case l_law_goes_with => k_is); (case c_law_goes_with => k_is); (case k_law_goes_with => k_is))
    (case z_len => k_is)
    (case z_range => k_is)
    (case z_tuple => k_is)
    (case z_list => k_is)
    (case z_dict => k_is)
    (case z_zip => k_is)
    (case z_enumerate => k_is)
    (case z_sorted => k_is)
    (case z_isinstance => k_is)
    (case z_int => k_is)
    (case z_bool => k_is)
    (case z_abs => k_is)
    (case z_divmod => k_is)
    (case z_max => k_is)
    (case z_min => k_is)
    (case z_any => k_is)
    (case z_all => k_is)
