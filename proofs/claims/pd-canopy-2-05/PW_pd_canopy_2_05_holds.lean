import PyProof.Rows.All
import Wide.All
import OpenK.AllK
import Wide.FinOn
import PySem.Challenge.RW_pd_canopy_2_05
set_option linter.unusedVariables false
namespace Mine

/-- keys and subtrees put in order -/
def weave : List Int → List (List Int) → List Int
  | [], cs => cs.flatten
  | _ :: _, [] => []
  | k :: ks, c :: cs => c ++ k :: weave ks cs

theorem weave_length : ∀ (ks : List Int) (cs : List (List Int)), cs.length = ks.length + 1 → (weave ks cs).length = ks.length + (cs.map List.length).sum
  | [], cs, _ => by simp [weave, List.length_flatten]
  | k :: ks, [], h => by simp at h
  | k :: ks, c :: cs, h => by
    have ih := weave_length ks cs (by simpa using h)
    simp only [weave, List.length_append, List.length_cons, List.map_cons, List.sum_cons, ih]
    omega

/-- how many lie below -/
def below (key : Int) (xs : List Int) : Nat := xs.countP (fun x => decide (x < key))

theorem below_append (key : Int) (xs ys : List Int) : below key (xs ++ ys) = below key xs + below key ys := by simp [below]
theorem below_cons (key x : Int) (xs : List Int) : below key (x :: xs) = below key xs + if x < key then 1 else 0 := by
  simp [below, List.countP_cons]
theorem below_all {key : Int} {xs : List Int} (h : ∀ x ∈ xs, x < key) : below key xs = xs.length := by
  simp only [below]
  rw [List.countP_eq_length]
  simpa using h
theorem below_none {key : Int} {xs : List Int} (h : ∀ x ∈ xs, key ≤ x) : below key xs = 0 := by
  simp only [below]
  rw [List.countP_eq_zero]
  intro x hx
  have := h x hx
  simp only [decide_eq_true_eq]
  omega
theorem below_le (key : Int) (xs : List Int) : below key xs ≤ xs.length := List.countP_le_length

/-- the keys of a node lie in the order that is woven -/
theorem weave_keys : ∀ (ks : List Int) (cs : List (List Int)), cs.length = ks.length + 1 → ∀ k ∈ ks, k ∈ weave ks cs
  | [], _, _, k, hk => nomatch hk
  | k' :: ks, [], h, _, _ => by simp at h
  | k' :: ks, c :: cs, h, k, hk => by
    simp only [weave, List.mem_append, List.mem_cons]
    rcases List.mem_cons.mp hk with rfl | hk
    · exact .inr (.inl rfl)
    · exact .inr (.inr (weave_keys ks cs (by simpa using h) k hk))

theorem weave_keys_sorted : ∀ (ks : List Int) (cs : List (List Int)), cs.length = ks.length + 1 → (weave ks cs).Pairwise (· < ·) → ks.Pairwise (· < ·)
  | [], _, _, _ => List.Pairwise.nil
  | k' :: ks, [], h, _ => by simp at h
  | k' :: ks, c :: cs, h, hp => by
    simp only [weave] at hp
    rw [List.pairwise_append] at hp
    obtain ⟨_, h2, _⟩ := hp
    rw [List.pairwise_cons] at h2 ⊢
    exact ⟨fun k hk => h2.1 k (weave_keys ks cs (by simpa using h) k hk), weave_keys_sorted ks cs (by simpa using h) h2.2⟩

theorem weave_child_sorted : ∀ (ks : List Int) (cs : List (List Int)), cs.length = ks.length + 1 → (weave ks cs).Pairwise (· < ·) → ∀ c ∈ cs, c.Pairwise (· < ·)
  | [], cs, _, hp, c, hc => by
    simp only [weave] at hp
    rw [List.pairwise_flatten] at hp
    exact hp.1 c hc
  | k' :: ks, [], h, _, _, _ => by simp at h
  | k' :: ks, c' :: cs, h, hp, c, hc => by
    simp only [weave] at hp
    rw [List.pairwise_append, List.pairwise_cons] at hp
    rcases List.mem_cons.mp hc with rfl | hc
    · exact hp.1
    · exact weave_child_sorted ks cs (by simpa using h) hp.2.1.2 c hc

/-- where a key stands among sorted keys -/
structure SlotAt (ks : List Int) (key : Int) (r : Nat) : Prop where
  le : r ≤ ks.length
  lo : ∀ j (hj : j < ks.length), j < r → ks[j] < key
  hi : ∀ j (hj : j < ks.length), r ≤ j → key ≤ ks[j]

theorem SlotAt.below {ks : List Int} {key : Int} {r : Nat} (s : SlotAt ks key r) : below key ks = r := by
  have e : ks = ks.take r ++ ks.drop r := (List.take_append_drop r ks).symm
  rw [e, below_append, below_all, below_none]
  · simp; have := s.le; omega
  · intro x hx
    obtain ⟨i, hi, rfl⟩ := List.getElem_of_mem hx
    rw [List.getElem_drop]
    exact s.hi _ _ (by omega)
  · intro x hx
    obtain ⟨i, hi, rfl⟩ := List.getElem_of_mem hx
    rw [List.getElem_take]
    simp at hi
    exact s.lo _ _ (by omega)

theorem rank_weave : ∀ (ks : List Int) (cs : List (List Int)) (key : Int) (r : Nat), cs.length = ks.length + 1 → (weave ks cs).Pairwise (· < ·) → SlotAt ks key r →
    ∀ c, cs[r]? = some c → below key (weave ks cs) = r + ((cs.take r).map List.length).sum + below key c
  | [], cs, key, r, h, _, s, c, hc => by
    have hr : r = 0 := by have := s.le; simpa using this
    subst hr
    match cs, h with
    | [c'], _ => simp at hc; subst hc; simp [weave]
  | k :: ks, [], key, r, h, _, _, _, _ => by simp at h
  | k :: ks, c' :: cs, key, 0, h, hp, s, c, hc => by
    simp at hc; subst hc
    have hk : key ≤ k := s.hi 0 (by simp) (Nat.le_refl _)
    simp only [weave] at hp ⊢
    rw [List.pairwise_append, List.pairwise_cons] at hp
    rw [below_append, below_none (xs := k :: weave ks cs)]
    · simp
    · intro x hx
      rcases List.mem_cons.mp hx with rfl | hx
      · exact hk
      · have := hp.2.1.1 x hx; omega
  | k :: ks, c' :: cs, key, r + 1, h, hp, s, c, hc => by
    simp only [weave] at hp ⊢
    rw [List.pairwise_append, List.pairwise_cons] at hp
    have hk : k < key := s.lo 0 (by simp) (by omega)
    have s' : SlotAt ks key r := ⟨by have := s.le; simpa using this, fun j hj h1 => s.lo (j + 1) (by simpa using hj) (by omega), fun j hj h1 => s.hi (j + 1) (by simpa using hj) (by omega)⟩
    have ih := rank_weave ks cs key r (by simpa using h) hp.2.1.2 s' c (by simpa using hc)
    rw [below_append, below_cons, ih, if_pos hk, below_all (xs := c')]
    · simp only [List.take_succ_cons, List.map_cons, List.sum_cons]; omega
    · intro x hx
      have := hp.2.2 x hx k (List.mem_cons_self ..)
      omega

/-- one turn of the selection -/
theorem weave_step_lt {ks : List Int} {c : List Int} {cs : List (List Int)} {rest : Nat} (h : rest < c.length) (hk : ks = [] → cs = []) :
    (weave ks (c :: cs))[rest]? = c[rest]? := by
  cases ks with
  | nil => rw [hk rfl]; simp [weave]
  | cons k ks => simp only [weave]; rw [List.getElem?_append_left h]
theorem weave_step_key {k : Int} {ks : List Int} {c : List Int} {cs : List (List Int)} : (weave (k :: ks) (c :: cs))[c.length]? = some k := by
  simp [weave]
theorem weave_step_on {k : Int} {ks : List Int} {c : List Int} {cs : List (List Int)} {rest : Nat} (h : c.length + 1 ≤ rest) :
    (weave (k :: ks) (c :: cs))[rest]? = (weave ks cs)[rest - c.length - 1]? := by
  simp only [weave]
  rw [List.getElem?_append_right (by omega)]
  obtain ⟨d, rfl⟩ : ∃ d, rest = c.length + 1 + d := ⟨rest - (c.length + 1), by omega⟩
  have e1 : c.length + 1 + d - c.length = d + 1 := by omega
  have e2 : c.length + 1 + d - c.length - 1 = d := by omega
  rw [e2, e1, List.getElem?_cons_succ]
theorem weave_step_end {c : List Int} {rest : Nat} (h : c.length ≤ rest) : (weave [] [c])[rest]? = none := by
  simp [weave]; exact h

/-! the pool -/
theorem below_at {ps : List Int} (hp : ps.Pairwise (· < ·)) {n k : Nat} (hn : n ≤ ps.length) (hk : k < n) :
    below (ps[k]'(by omega)) (ps.take n) = k ∧ below (ps[k]'(by omega) + 1) (ps.take n) = k + 1 := by
  have hk' : k < ps.length := by omega
  have e : ps.take n = ps.take k ++ (ps[k] :: (ps.take n).drop (k + 1)) := by
    have h1 : ps.take n = (ps.take n).take k ++ (ps.take n).drop k := (List.take_append_drop k _).symm
    rw [List.take_take, Nat.min_eq_left (by omega)] at h1
    rw [List.drop_eq_getElem_cons (by simp; omega)] at h1
    simpa using h1
  have hlt : ∀ i j (hi : i < ps.length) (hj : j < ps.length), i < j → ps[i] < ps[j] := fun i j hi hj h => List.pairwise_iff_getElem.mp hp i j hi hj h
  have h1 : ∀ x ∈ ps.take k, x < ps[k] := by
    intro x hx
    obtain ⟨i, hi, rfl⟩ := List.getElem_of_mem hx
    rw [List.getElem_take]
    simp at hi
    exact hlt _ _ _ _ (by omega)
  have h2 : ∀ x ∈ (ps.take n).drop (k + 1), ps[k] < x := by
    intro x hx
    obtain ⟨i, hi, rfl⟩ := List.getElem_of_mem hx
    rw [List.getElem_drop, List.getElem_take]
    exact hlt _ _ _ _ (by omega)
  have hl : (ps.take k).length = k := by simp; omega
  constructor
  · rw [e, below_append, below_all h1, below_none, hl, Nat.add_zero]
    intro x hx
    rcases List.mem_cons.mp hx with rfl | hx
    · omega
    · have := h2 x hx; omega
  · rw [e, below_append, below_cons, below_all (fun x hx => by have := h1 x hx; omega), below_none, hl, if_pos (by omega)]
    intro x hx
    have := h2 x hx; omega
theorem below_first {ps : List Int} (hp : ps.Pairwise (· < ·)) {n : Nat} (h0 : 0 < ps.length) : below (ps[0] - 1) (ps.take n) = 0 := by
  refine below_none fun x hx => ?_
  obtain ⟨i, hi, rfl⟩ := List.getElem_of_mem hx
  rw [List.getElem_take]
  simp at hi
  by_cases h : i = 0
  · subst h; omega
  · have := List.pairwise_iff_getElem.mp hp 0 i h0 (by omega) (by omega)
    omega
theorem below_filter (key : Int) (xs : List Int) : (xs.filter (fun x => decide (x < key))).length = below key xs := by simp [below, List.countP_eq_length_filter]

/-! the trees that are built -/
def leavesOf (ps : List Int) : Nat → List Nat → List (List Int)
  | _, [] => []
  | at', z :: zs => (ps.drop at').take z :: leavesOf ps (at' + z + 1) zs
def keysOf (ps : List Int) : Nat → List Nat → List Int
  | _, [] => []
  | at', z :: zs => ps.getD (at' + z) 0 :: keysOf ps (at' + z + 1) zs
theorem leavesOf_length (ps : List Int) : ∀ (zs : List Nat) (i : Nat), (leavesOf ps i zs).length = zs.length
  | [], _ => rfl
  | _ :: zs, i => by simp [leavesOf, leavesOf_length ps zs]
theorem keysOf_length (ps : List Int) : ∀ (zs : List Nat) (i : Nat), (keysOf ps i zs).length = zs.length
  | [], _ => rfl
  | _ :: zs, i => by simp [keysOf, keysOf_length ps zs]
theorem leavesOf_append (ps : List Int) : ∀ (zs ys : List Nat) (i : Nat), leavesOf ps i (zs ++ ys) = leavesOf ps i zs ++ leavesOf ps (i + zs.sum + zs.length) ys
  | [], ys, i => by simp [leavesOf]
  | z :: zs, ys, i => by
    simp only [List.cons_append, leavesOf, leavesOf_append ps zs ys, List.sum_cons, List.length_cons]
    rw [show i + z + 1 + zs.sum + zs.length = i + (z + zs.sum) + (zs.length + 1) by omega]
theorem keysOf_append (ps : List Int) : ∀ (zs ys : List Nat) (i : Nat), keysOf ps i (zs ++ ys) = keysOf ps i zs ++ keysOf ps (i + zs.sum + zs.length) ys
  | [], ys, i => by simp [keysOf]
  | z :: zs, ys, i => by
    simp only [List.cons_append, keysOf, keysOf_append ps zs ys, List.sum_cons, List.length_cons]
    rw [show i + z + 1 + zs.sum + zs.length = i + (z + zs.sum) + (zs.length + 1) by omega]
theorem take_one_drop {ps : List Int} {n : Nat} (h : n < ps.length) : (ps.drop n).take 1 = [ps[n]] := by
  rw [List.drop_eq_getElem_cons h]; rfl
theorem weave_built (ps : List Int) : ∀ (zs : List Nat) (i : Nat), zs ≠ [] → i + zs.sum + zs.length ≤ ps.length + 1 →
    weave ((keysOf ps i zs).take (zs.length - 1)) (leavesOf ps i zs) = (ps.drop i).take (zs.sum + zs.length - 1)
  | [], _, h, _ => absurd rfl h
  | [z], i, _, _ => by simp [keysOf, leavesOf, weave]
  | z :: y :: zs, i, _, h => by
    have ih := weave_built ps (y :: zs) (i + z + 1) (by simp) (by simp at h ⊢; omega)
    have e1 : (z :: y :: zs).length - 1 = (y :: zs).length - 1 + 1 := by simp
    simp only [List.sum_cons, List.length_cons] at h
    have hlt : i + z < ps.length := by omega
    rw [e1]
    simp only [keysOf, leavesOf, List.take_succ_cons, weave] at ih ⊢
    rw [ih]
    have e2 : (z :: y :: zs).sum + (z :: y :: zs).length - 1 = z + (1 + ((y :: zs).sum + (y :: zs).length - 1)) := by simp; omega
    rw [e2, List.take_add, List.drop_drop, List.take_add]
    rw [take_one_drop hlt]
    simp [List.getD, hlt]
theorem weave_two {ps : List Int} {n m : Nat} (h : n < ps.length) : weave [ps[n]] [ps.take n, (ps.drop (n + 1)).take m] = ps.take (n + 1 + m) := by
  simp only [weave, List.flatten_cons, List.flatten_nil, List.append_nil]
  rw [show n + 1 + m = n + (1 + m) by omega, List.take_add, List.take_add, take_one_drop h]
  simp
theorem sum_le_of {zs : List Nat} {b : Nat} : (∀ z ∈ zs, z ≤ b) → zs.sum ≤ zs.length * b := by
  induction zs with
  | nil => intro _; simp
  | cons z zs ih =>
    intro h
    have h1 := h z (List.mem_cons_self ..)
    have h2 := ih fun y hy => h y (List.mem_cons_of_mem _ hy)
    rw [List.sum_cons, List.length_cons, Nat.add_mul]
    omega
theorem pairwise_snoc {xs : List Int} {x : Int} (h : xs.Pairwise (· < ·)) (hx : ∀ y, xs.getLast? = some y → y < x) : (xs ++ [x]).Pairwise (· < ·) := by
  rw [List.pairwise_append]
  refine ⟨h, by simp, fun a ha b hb => ?_⟩
  rw [List.mem_singleton.mp hb]
  have hne : xs ≠ [] := fun e => by rw [e] at ha; cases ha
  have hl := hx (xs.getLast hne) (List.getLast?_eq_some_getLast hne)
  obtain ⟨i, hi, rfl⟩ := List.getElem_of_mem ha
  by_cases hi' : i = xs.length - 1
  · subst hi'
    rw [List.getLast_eq_getElem] at hl
    exact hl
  · have := List.pairwise_iff_getElem.mp h i (xs.length - 1) hi (by omega) (by omega)
    rw [List.getLast_eq_getElem] at hl
    omega

theorem getD_at {ks : List Int} {i : Nat} {d : Int} (h : i < ks.length) : ks.getD i d = ks[i] := by simp [List.getD, h]
theorem mid_is {lo hi : Int} (h1 : lo < hi) : lo ≤ (lo + hi).fdiv 2 ∧ (lo + hi).fdiv 2 < hi := by
  rw [Int.fdiv_eq_ediv_of_nonneg _ (by decide)]
  omega
theorem sorted_le {ks : List Int} (hs : ks.Pairwise (· < ·)) {i j : Nat} (hi : i < ks.length) (hj : j < ks.length) (h : i ≤ j) : ks[i] ≤ ks[j] := by
  by_cases e : i = j
  · subst e; exact Int.le_refl _
  · have := List.pairwise_iff_getElem.mp hs i j hi hj (by omega)
    omega
theorem bs_lo {ks : List Int} {key lo hi : Int} (hs : ks.Pairwise (· < ·)) (h0 : 0 ≤ lo) (h1 : lo < hi) (h2 : hi ≤ (ks.length : Int)) (c : ks.getD ((lo + hi).fdiv 2).toNat 0 < key) :
    ∀ j (hj : j < ks.length), (j : Int) < (lo + hi).fdiv 2 + 1 → ks[j] < key := by
  intro j hj h
  have hm := mid_is h1
  have hl : ((lo + hi).fdiv 2).toNat < ks.length := by omega
  rw [getD_at hl] at c
  have := sorted_le hs hj hl (by omega)
  omega
theorem bs_hi {ks : List Int} {key lo hi : Int} (hs : ks.Pairwise (· < ·)) (h0 : 0 ≤ lo) (h1 : lo < hi) (h2 : hi ≤ (ks.length : Int)) (c : ¬ ks.getD ((lo + hi).fdiv 2).toNat 0 < key) :
    ∀ j (hj : j < ks.length), (lo + hi).fdiv 2 ≤ (j : Int) → key ≤ ks[j] := by
  intro j hj h
  have hm := mid_is h1
  have hl : ((lo + hi).fdiv 2).toNat < ks.length := by omega
  rw [getD_at hl] at c
  have := sorted_le hs hl hj (by omega)
  omega


theorem sum_range {α : Type} (g : α → Nat) (xs : List α) : ((List.range xs.length).map fun i => ((xs[i]?).map g).getD 0).sum = (xs.map g).sum := by
  congr 1
  apply List.ext_getElem
  · simp
  · intro i h1 h2
    simp at h1 h2
    simp [h2]
theorem sum_range_take {α : Type} (g : α → Nat) (xs : List α) (r : Nat) (hr : r ≤ xs.length) : ((List.range r).map fun i => ((xs[i]?).map g).getD 0).sum = ((xs.take r).map g).sum := by
  congr 1
  apply List.ext_getElem
  · simp; omega
  · intro i h1 h2
    simp only [List.length_map, List.length_range, List.length_take] at h1 h2
    have h3 : i < xs.length := by omega
    simp [h3]

theorem pool_step {ps : List Int} {x : Int} {n : Nat} (h : ps.length = n + 1) (hp : ps.Pairwise (· < ·)) (hx : ps.getD n 0 < x) : (ps ++ [x]).Pairwise (· < ·) := by
  refine pairwise_snoc hp fun y hy => ?_
  rw [List.getLast?_eq_getElem?, h, Nat.add_sub_cancel, List.getElem?_eq_getElem (by omega)] at hy
  rw [getD_at (by omega)] at hx
  cases hy
  exact hx

end Mine
open PySem PySem.W PyProof.Rows PySem.Spec PySem.Calls
set_option Elab.async false
set_option maxRecDepth 100000
set_option maxHeartbeats 8000000
namespace Mine
open_top hd for PySem.Challenge.rw_pd_canopy_2_05


/-- trees whose leaves all lie at one level -/
def BT : Nat → Type
  | 0 => List Int
  | h + 1 => List Int × List (BT h)
/-- the keys in order -/
def ino : (h : Nat) → BT h → List Int
  | 0, ks => ks
  | h + 1, t => weave t.1 (t.2.map (ino h))
def wf : (h : Nat) → BT h → Prop
  | 0, t => List.length (α := Int) t ≤ 64
  | h + 1, t => t.1.length ≤ 64 ∧ t.2.length = t.1.length + 1 ∧ ∀ c ∈ t.2, wf h c

def ListP (P : Addr → Obj → Prop) (l : Addr) (vs : List Value) : Prop := ∃ o, P l o ∧ o.cls = .type "list" ∧ ∃ n, o.data = .seq vs.toArray n
def TupP (P : Addr → Obj → Prop) (l : Addr) (vs : List Value) : Prop := ∃ o, P l o ∧ o.cls = .type "tuple" ∧ ∃ n, o.data = .seq vs.toArray n
def TreeP (P : Addr → Obj → Prop) : (h : Nat) → BT h → Value → Prop
  | 0, ks, v => ∃ a k u c kvs, v = .ref a ∧ TupP P a [.ref k, .ref u, .ref c] ∧ ListP P k kvs ∧ IntsAre kvs ks ∧ ListP P c []
  | h + 1, t, v => ∃ a k u c kvs cvs, v = .ref a ∧ TupP P a [.ref k, .ref u, .ref c] ∧ ListP P k kvs ∧ IntsAre kvs t.1 ∧ ListP P c cvs ∧ cvs.length = t.2.length ∧
      ∀ (i : Nat) ti vi, t.2[i]? = some ti → cvs[i]? = some vi → TreeP P h ti vi
theorem ListP.mono {P P' : Addr → Obj → Prop} {l : Addr} {vs : List Value} (x : ListP P l vs) (k : ∀ a o, P a o → P' a o) : ListP P' l vs := let ⟨o, h, r⟩ := x; ⟨o, k _ _ h, r⟩
theorem TupP.mono {P P' : Addr → Obj → Prop} {l : Addr} {vs : List Value} (x : TupP P l vs) (k : ∀ a o, P a o → P' a o) : TupP P' l vs := let ⟨o, h, r⟩ := x; ⟨o, k _ _ h, r⟩
theorem TreeP.mono {P P' : Addr → Obj → Prop} (k : ∀ a o, P a o → P' a o) : ∀ {h : Nat} {t : BT h} {v : Value}, TreeP P h t v → TreeP P' h t v
  | 0, _, _, ⟨a, x, u, c, kvs, e, h1, h2, h3, h4⟩ => ⟨a, x, u, c, kvs, e, h1.mono k, h2.mono k, h3, h4.mono k⟩
  | _ + 1, _, _, ⟨a, x, u, c, kvs, cvs, e, h1, h2, h3, h4, h5, h6⟩ => ⟨a, x, u, c, kvs, cvs, e, h1.mono k, h2.mono k, h3, h4.mono k, h5, fun i ti vi e1 e2 => TreeP.mono k (h6 i ti vi e1 e2)⟩
def At (g : Heap) (a : Addr) (o : Obj) : Prop := g.get? a = some o
abbrev TreeAt (g : Heap) (h : Nat) (t : BT h) (v : Value) : Prop := TreeP (At g) h t v
theorem ListP.isList {g : Heap} {l : Addr} {vs : List Value} (x : ListP (At g) l vs) : g.IsList l vs.toArray := x
theorem TupP.isTup {g : Heap} {l : Addr} {vs : List Value} (x : TupP (At g) l vs) : IsTup g l vs.toArray := x

section
variable {prog : Program} {w : World} {A : Around} {E : Value → Shared → Prop} {s : Shared} {Q : Value → Shared → Prop} {K : Frag}
    {name qual : Str} {params : Arguments} {body : List Stmt} {scope : Scope} {dV kV doc pm cdv ct oc : Value} {an od : Option Addr} {osl : Array (Option Value)} {f : Addr} {vs : List Value} {binds : List (Str × Value)}
/-- a call, its base the whole heap -/
theorem enter (X : K.In s.heap) (hlim : s.heap.NoLimit) (ho : K.lookup f = some ⟨oc, od, .func (fnOf name qual params body scope dV kV doc pm an cdv ct), osl⟩) (hcd : codeIn K cdv qual = true) (hroom : A.depth < recursionLimit)
    (hbind : BindsTo s (fnOf name qual params body scope dV kV doc pm an cdv ct) ⟨vs, []⟩ binds) (hloc : ∀ y ∈ binds, scope.names.lookup y.1 = some .local)
    (h : ∀ L h₁, Fr s.heap L h₁ (fun y => binds.reverse.lookup y) → News s.heap L h₁ [] →
      wpAny (model prog w) (A.deeper (envOf qual scope L f cdv)) (execs body (envOf qual scope L f cdv))
        (fun fl s' => Q (match fl with | .ret v => v | _ => .none) s')
        (fun e s' => wpAny (model prog w) (A.deeper (envOf qual scope L f cdv)) (leaving (envOf qual scope L f cdv) e) (fun _ s'' => E e s'') (fun e' s'' => E e' s'') s')
        { s with heap := h₁, toks := s.toks + binds.length })
    (hco : scope.isCoroutine = false) (hgen : scope.isGenerator = false) (hk : scope.kind = .function)
    (hcell : ∀ x ∈ scope.names, x.2 ≠ .cell) : wpAny (model prog w) A (call (.ref f) vs) Q E s :=
  wpAny_call (codeAny_call_def (fd := fnOf name qual params body scope dV kV doc pm an cdv ct) (body := body) (binds := binds) hroom (X _ _ ho) rfl hlim (codeRec_of X hcd) rfl hbind hcell hloc
    (fun h₁ hns hk₁ => h s.heap.objs.size h₁ ⟨hns, hk₁, Nat.le_refl _⟩ News.nil) hco hgen hk)
end

section
variable {prog : Program} {w : World} {A : Around} {E : Value → Shared → Prop} {s : Shared} {env : Env} {h₀ : Heap} {x : Str} {body : List Stmt} {Q : Flow → Shared → Prop}

/-- a loop over any list of the base; what holds between turns speaks of the names alone -/
theorem list_inv {l : Addr} {vs : List Value} {m₀ : Str → Option Value} {news : List (Addr × Obj)} (J : Nat → (Str → Option Value) → Prop)
    (hh : A.handled = none) (hl : h₀.IsList l vs.toArray) (F : Fr h₀ env.locals s.heap m₀) (N : News h₀ env.locals s.heap news) (hj : J 0 m₀)
    (turn : ∀ i v m₁ h tk own, vs[i]? = some v → J i m₁ → Fr h₀ env.locals h (fun y => if y = x then some v else m₁ y) → News h₀ env.locals h (own ++ news) →
      wpAny (model prog w) A (execs body env) (InvPost h₀ env.locals (J (i + 1)) (own ++ news) { s with heap := h, toks := tk } Q) E { s with heap := h, toks := tk })
    (done : ∀ m₁ h tk, J vs.length m₁ → Fr h₀ env.locals h m₁ → News h₀ env.locals h news → Q .next { s with heap := h, toks := tk }) :
    wpAny (model prog w) A (pyIter (.ref l)) (fun it s₂ => LoopAtV prog w A h₀ env x body Q E it s₂) E s := by
  have hls : s.heap.IsList l vs.toArray := hl.at fun o e => F.keep l o e
  obtain ⟨ol, hol, _⟩ := id hl
  have hlt : l < h₀.objs.size := Heap.lt_size hol
  have hne : l ≠ s.heap.objs.size := Nat.ne_of_lt (Nat.lt_trans (Nat.lt_of_lt_of_le hlt F.above) F.ns.lt)
  refine wpAny_pyIter_list hls ?_
  have W := Walks.list (prog := prog) (w := w) hh s.heap.objs.size l hne vs.toArray
  have hlen : vs.toArray.size = vs.length := by simp
  rw [hlen] at W
  refine ⟨_, _, _, vs.length, _, _, m₀, news, fun i m₁ news₁ => news₁ = news ∧ J i m₁, rfl, W, ?_, ?_, ?_, ⟨⟨_, Heap.get?_push_size _ rfl, rfl, rfl⟩, hls.at fun o e => Heap.get?_push_of_some _ e⟩, F.push _, (fun p hp => ⟨Heap.get?_push_of_some _ (N p hp).1, (N p hp).2⟩), ⟨rfl, hj⟩, ?_, ?_⟩
  · intro hm
    rcases List.mem_cons.mp hm with e | hm
    · exact absurd F.ns.lt (e ▸ Nat.lt_irrefl _)
    · exact absurd (Nat.lt_of_lt_of_le hlt F.above) ((List.mem_singleton.mp hm) ▸ Nat.lt_irrefl _)
  · intro b hb
    rw [List.mem_singleton.mp hb]
    exact next_is_new F
  · intro p hp hI
    exact absurd (Heap.lt_size (N p hp).1) ((List.mem_singleton.mp hI) ▸ Nat.lt_irrefl _)
  · rintro i v m₁ news₁ s₁ own ⟨hh', tk', rfl⟩ hin hP ⟨rfl, hJ⟩ hoff _ _ _ _ F₁ N₁
    have hv : vs[i]? = some v := by simpa using hP
    refine wpAny_mono (turn i v m₁ hh' tk' own hv hJ F₁ N₁) (fun f s₂ p => ?_) fun _ _ e => e
    have fin : InvEnd h₀ env.locals (J (i + 1)) (own ++ news₁) { s with heap := hh', toks := tk' } s₂ → LoopStepU h₀ env.locals [s.heap.objs.size] own (fun m₂ news₂ => news₂ = news₁ ∧ J (i + 1) m₂) { s with heap := hh', toks := tk' } .next s₂ := by
      rintro ⟨h', tk, m', news', e, F', N', hn, hm⟩
      exact ⟨rfl, h', tk, m', news₁, e, F', fun p hp => N' p (hn p hp), hoff, rfl, hm⟩
    cases f with
    | ret v => exact .ret p
    | brk => exact .brk p
    | next => exact .next (fin p)
    | cont => exact .cont (fin p)
  · rintro h' tk m' news' F' N' _ ⟨rfl, hJ⟩
    exact done m' h' tk hJ F' N'

/-- a loop over a range by ones; what holds between turns speaks of the names alone -/
theorem range_inv {r : Addr} {a₀ b₀ : Int} {t₀ u₀ v₀ : Tok} {n : Nat} {m₀ : Str → Option Value} {news : List (Addr × Obj)} (J : Nat → (Str → Option Value) → Prop)
    (hh : A.handled = none) (hr : IsRange s.heap r a₀ b₀ 1 t₀ u₀ v₀) (hsmall : Builtin.Range.small a₀ b₀ 1 = true) (hn : Builtin.Range.rangeSize a₀ b₀ 1 = (n : Int)) (F : Fr h₀ env.locals s.heap m₀) (N : News h₀ env.locals s.heap news) (hj : J 0 m₀)
    (turn : ∀ (i : Nat) t m₁ h tk own, i < n → J i m₁ → Fr h₀ env.locals h (fun y => if y = x then some (.int (a₀ + (i : Int)) t) else m₁ y) → News h₀ env.locals h (own ++ news) →
      wpAny (model prog w) A (execs body env) (InvPost h₀ env.locals (J (i + 1)) (own ++ news) { s with heap := h, toks := tk } Q) E { s with heap := h, toks := tk })
    (done : ∀ m₁ h tk, J n m₁ → Fr h₀ env.locals h m₁ → News h₀ env.locals h news → Q .next { s with heap := h, toks := tk }) :
    wpAny (model prog w) A (pyIter (.ref r)) (fun it s₂ => LoopAtV prog w A h₀ env x body Q E it s₂) E s := by
  refine wpAny_pyIter_range hr hsmall ?_
  have W : Walks prog w A s.heap.objs.size [s.heap.objs.size] [s.heap.objs.size] n (fun i v => i < n ∧ ∃ t, v = .int (a₀ + i * 1) t)
      (fun i h => IsRangeIter h s.heap.objs.size (a₀ + (i : Nat) * 1) ((n : Int) - (i : Nat)) 1) := (Walks.range hh _ a₀ 1 n).bound
  refine ⟨_, _, _, n, _, _, m₀, news, fun i m₁ news₁ => news₁ = news ∧ J i m₁, rfl, W, ?_, ?_, ?_, (by show IsRangeIter _ _ _ _ _; rw [hn]; simpa using Heap.get?_push_size _ rfl), F.push _, (fun p hp => ⟨Heap.get?_push_of_some _ (N p hp).1, (N p hp).2⟩), ⟨rfl, hj⟩, ?_, ?_⟩
  · intro hm
    exact absurd F.ns.lt ((List.mem_singleton.mp hm) ▸ Nat.lt_irrefl _)
  · intro b hb
    rw [List.mem_singleton.mp hb]
    exact next_is_new F
  · intro p hp hI
    exact absurd (Heap.lt_size (N p hp).1) ((List.mem_singleton.mp hI) ▸ Nat.lt_irrefl _)
  · rintro i v m₁ news₁ s₁ own ⟨hh', tk', rfl⟩ hin ⟨_, t, rfl⟩ ⟨rfl, hJ⟩ hoff _ _ _ _ F₁ N₁
    have e1 : a₀ + (i : Int) * 1 = a₀ + (i : Int) := by omega
    rw [e1] at F₁
    refine wpAny_mono (turn i t m₁ hh' tk' own hin hJ F₁ N₁) (fun f s₂ p => ?_) fun _ _ e => e
    have fin : InvEnd h₀ env.locals (J (i + 1)) (own ++ news₁) { s with heap := hh', toks := tk' } s₂ → LoopStepU h₀ env.locals [s.heap.objs.size] own (fun m₂ news₂ => news₂ = news₁ ∧ J (i + 1) m₂) { s with heap := hh', toks := tk' } .next s₂ := by
      rintro ⟨h', tk, m', news', e, F', N', hn, hm⟩
      exact ⟨rfl, h', tk, m', news₁, e, F', fun p hp => N' p (hn p hp), hoff, rfl, hm⟩
    cases f with
    | ret v => exact .ret p
    | brk => exact .brk p
    | next => exact .next (fin p)
    | cont => exact .cont (fin p)
  · rintro h' tk m' news' F' N' _ ⟨rfl, hJ⟩
    exact done m' h' tk hJ F' N'
end

abbrev PP : Program := PySem.Challenge.pw_pd_canopy_2_05
abbrev ar (dp un : Nat) (gd : Option (List Code)) (outer : List Env) : Around := { handled := none, depth := dp, frames := some outer, guards := gd, units := un }
section
variable {prog : Program} {w : World} {A : Around} {E : Value → Shared → Prop} {s : Shared} {h₀ : Heap} {L : Addr} {m : Str → Option Value} {Q : Value → Shared → Prop}
theorem my_len {l : Addr} {vs : List Value} (F : Fr h₀ L s.heap m) (hl : h₀.IsList l vs.toArray) (hn : vs.length ≤ 64)
    (h : ∀ t tk', Q (.int (vs.length : Int) t) { s with toks := tk' }) : wpAny (model prog w) A (call (.builtin "len") [.ref l]) Q E s :=
  len_list (hl.at fun o e => F.keep l o e) (by simp; omega) (by simpa using h _ _)
theorem my_lenI {l : Addr} {vs : List Value} {ks : List Int} (F : Fr h₀ L s.heap m) (hl : h₀.IsList l vs.toArray) (hi : IntsAre vs ks) (hn : ks.length ≤ 64)
    (h : ∀ t tk', Q (.int (ks.length : Int) t) { s with toks := tk' }) : wpAny (model prog w) A (call (.builtin "len") [.ref l]) Q E s :=
  len_list (hl.at fun o e => F.keep l o e) (by simp [hi.length]; omega) (by simpa [hi.length] using h _ _)
end
section
variable {prog : Program} {w : World} {A : Around} {E : Value → Shared → Prop} {s : Shared} {env : Env} {h₀ : Heap} {x : Str} {body : List Stmt} {Q : Flow → Shared → Prop} {σ : Type}

/-- what holds between turns: the names' values by a state c, all else as it stood but for what is stored -/
def StJ (ps : σ → List (Str × Value)) (x : Str) (stored : List Str) (m₀ : Str → Option Value) (P : σ → Prop) (m : Str → Option Value) : Prop :=
  ∃ c : σ, (∀ p ∈ ps c, m p.1 = some p.2) ∧ (∀ z, z ≠ x → (∀ p ∈ ps c, z ≠ p.1) → stored.contains z = false → m z = m₀ z) ∧ P c

theorem st_end {ps : σ → List (Str × Value)} {stored : List Str} {m₀ m' : Str → Option Value} {P : σ → Prop} {L : Addr} {need news' : List (Addr × Obj)} {s₁ : Shared} {h' : Heap} {tk : Nat} (c : σ)
    (F : Fr h₀ L h' m') (N : News h₀ L h' news') (hn : ∀ p ∈ need, p ∈ news') (hk : ∀ p ∈ ps c, m' p.1 = some p.2) (hr : ∀ z, z ≠ x → (∀ p ∈ ps c, z ≠ p.1) → stored.contains z = false → m' z = m₀ z) (hp : P c) :
    InvEnd h₀ L (StJ ps x stored m₀ P) need s₁ { s₁ with heap := h', toks := tk } := InvEnd.intro F N hn ⟨c, hk, hr, hp⟩

theorem range_st {r : Addr} {a₀ b₀ : Int} {t₀ u₀ v₀ : Tok} {n : Nat} {m₀ : Str → Option Value} {news : List (Addr × Obj)} (ps : σ → List (Str × Value)) (stored : List Str) (P : Nat → σ → Prop) (c₀ : σ)
    (hh : A.handled = none) (hr : IsRange s.heap r a₀ b₀ 1 t₀ u₀ v₀) (hsmall : Builtin.Range.small a₀ b₀ 1 = true) (hn : Builtin.Range.rangeSize a₀ b₀ 1 = (n : Int)) (F : Fr h₀ env.locals s.heap m₀) (N : News h₀ env.locals s.heap news)
    (hk : ∀ p ∈ ps c₀, m₀ p.1 = some p.2) (hp : P 0 c₀)
    (turn : ∀ (i : Nat) (c : σ) t (u : Str → Option Value) h tk own, i < n → P i c → Fr h₀ env.locals h (fun y => if y = x then some (.int (a₀ + (i : Int)) t) else kstB (fun z => if stored.contains z then u z else m₀ z) (ps c) y) → News h₀ env.locals h (own ++ news) →
      wpAny (model prog w) A (execs body env) (InvPost h₀ env.locals (StJ ps x stored m₀ (P (i + 1))) (own ++ news) { s with heap := h, toks := tk } Q) E { s with heap := h, toks := tk })
    (done : ∀ (c : σ) (u : Str → Option Value) h tk, P n c → Fr h₀ env.locals h (fun y => if y = x then u y else kstB (fun z => if stored.contains z then u z else m₀ z) (ps c) y) → News h₀ env.locals h news → Q .next { s with heap := h, toks := tk }) :
    wpAny (model prog w) A (pyIter (.ref r)) (fun it s₂ => LoopAtV prog w A h₀ env x body Q E it s₂) E s := by
  refine range_inv (fun i m => StJ ps x stored m₀ (P i) m) hh hr hsmall hn F N ⟨c₀, hk, fun _ _ _ _ => rfl, hp⟩ ?_ ?_
  · rintro i t m₁ h tk own hi ⟨c, h1, h2, hp'⟩ F₁ N₁
    exact turn i c t m₁ h tk own hi hp' (kst_fr h1 h2 F₁) N₁
  · rintro m₁ h tk ⟨c, h1, h2, hp'⟩ F₁ N₁
    exact done c m₁ h tk hp' (kst_frOut h1 h2 F₁) N₁

theorem list_st {l : Addr} {vs : List Value} {m₀ : Str → Option Value} {news : List (Addr × Obj)} (ps : σ → List (Str × Value)) (stored : List Str) (P : Nat → σ → Prop) (c₀ : σ)
    (hh : A.handled = none) (hl : h₀.IsList l vs.toArray) (F : Fr h₀ env.locals s.heap m₀) (N : News h₀ env.locals s.heap news)
    (hk : ∀ p ∈ ps c₀, m₀ p.1 = some p.2) (hp : P 0 c₀)
    (turn : ∀ (i : Nat) (c : σ) v (u : Str → Option Value) h tk own, vs[i]? = some v → P i c → Fr h₀ env.locals h (fun y => if y = x then some v else kstB (fun z => if stored.contains z then u z else m₀ z) (ps c) y) → News h₀ env.locals h (own ++ news) →
      wpAny (model prog w) A (execs body env) (InvPost h₀ env.locals (StJ ps x stored m₀ (P (i + 1))) (own ++ news) { s with heap := h, toks := tk } Q) E { s with heap := h, toks := tk })
    (done : ∀ (c : σ) (u : Str → Option Value) h tk, P vs.length c → Fr h₀ env.locals h (fun y => if y = x then u y else kstB (fun z => if stored.contains z then u z else m₀ z) (ps c) y) → News h₀ env.locals h news → Q .next { s with heap := h, toks := tk }) :
    wpAny (model prog w) A (pyIter (.ref l)) (fun it s₂ => LoopAtV prog w A h₀ env x body Q E it s₂) E s := by
  refine list_inv (fun i m => StJ ps x stored m₀ (P i) m) hh hl F N ⟨c₀, hk, fun _ _ _ _ => rfl, hp⟩ ?_ ?_
  · rintro i v m₁ h tk own hi ⟨c, h1, h2, hp'⟩ F₁ N₁
    exact turn i c v m₁ h tk own hi hp' (kst_fr h1 h2 F₁) N₁
  · rintro m₁ h tk ⟨c, h1, h2, hp'⟩ F₁ N₁
    exact done c m₁ h tk hp' (kst_frOut h1 h2 F₁) N₁
end

/-- what a called def leans on: the frames below, the written part, the top -/
structure Cx (w : World) (loose : List Str) (mean : ExcName → Option Value) (mg mb : Str → Option Value) (dp un : Nat) (gd : Option (List Code)) (outer : List Env) (base h : Heap) : Prop where
  B : Below (ar dp un gd outer) base outer h
  X : (Mine.hd.heap_39 w.params).In h
  T : Top Mine.hd.view_39 loose mean mg mb h
def Keeps (h h' : Heap) : Prop := ∀ b o, h.get? b = some o → h'.get? b = some o
theorem Keeps.refl {h : Heap} : Keeps h h := fun _ _ e => e
theorem Keeps.trans {a b c : Heap} (x : Keeps a b) (y : Keeps b c) : Keeps a c := fun _ _ e => y _ _ (x _ _ e)
theorem Keeps.at {h h' : Heap} (k : Keeps h h') : ∀ a o, At h a o → At h' a o := k
theorem below_push {A : Around} {base h₀ h : Heap} {outer : List Env} {L : Addr} {m : Str → Option Value} {env : Env}
    (K : Below A base outer h₀) (F : Fr h₀ L h m) (hk : env.scope.kind = .function) (hf : env.frame = some L) : Below (A.deeper env) base (env :: outer) h := by
  have hnew : base.get? L = none := by
    cases hq : base.get? L with
    | none => rfl
    | some o => exact absurd (Nat.lt_of_lt_of_le (Heap.lt_size (K.stays L o hq)) F.above) (Nat.lt_irrefl _)
  refine ⟨Around.frames_deeper K.stack, fun b o e => F.keep b o (K.stays b o e), ?_⟩
  exact .cons (by rw [hk]; decide) hf F.ns hnew (K.frames.of_keeps fun b o e _ => ⟨o, F.keep b o e, rfl⟩)
theorem Cx.push {w : World} {loose : List Str} {mean : ExcName → Option Value} {mg mb : Str → Option Value} {dp un : Nat} {gd : Option (List Code)} {outer : List Env} {base h₀ h : Heap} {L : Addr} {m : Str → Option Value} {env : Env}
    (B : Below (ar dp un gd outer) base outer h₀) (X : (Mine.hd.heap_39 w.params).In h₀) (T : Top Mine.hd.view_39 loose mean mg mb h₀) (F : Fr h₀ L h m) (hk : env.scope.kind = .function) (hf : env.frame = some L) :
    Cx w loose mean mg mb (dp + 1) (un + 3) gd (env :: outer) base h := ⟨below_push B F hk hf, X.keeps F.keep, T.keeps F.keep⟩
theorem fr_keeps {h₀ h h' : Heap} {L : Addr} {m : Str → Option Value} (F : Fr h₀ L h m) (k : Keeps h h') : Fr h₀ L h' m := F.keeps k
theorem news_keeps {h₀ h h' : Heap} {L : Addr} {l : List (Addr × Obj)} (N : News h₀ L h l) (k : Keeps h h') : News h₀ L h' l := fun p hp => ⟨k _ _ (N p hp).1, (N p hp).2⟩

section
variable {prog : Program} {w : World} {A : Around} {E : Value → Shared → Prop} {s : Shared} {h₀ : Heap} {L : Addr} {m : Str → Option Value} {news : List (Addr × Obj)} {Q : Value → Shared → Prop}
theorem my_nil_tt {l b : Addr} {n : Nat} (F : Fr h₀ L s.heap m) (hl : h₀.IsList l [].toArray) (N : News h₀ L s.heap news) (hb : (b, listOf #[] n) ∈ news) (hu : A.units < cLine) (h : Q (.bool true) s) :
    wpAny (model prog w) A (compareOp .Eq (.ref l) (.ref b)) Q E s :=
  PySem.SeqAt.eq_listAt (e := fun _ => true) (hl.at fun o e => F.keep l o e) ⟨_, (N _ hb).1, rfl, _, rfl⟩ rfl hu (fun j h1 => absurd h1 (by simp)) (by simpa using h)
theorem my_nil_ff {l b : Addr} {n : Nat} {vs : List Value} (F : Fr h₀ L s.heap m) (hl : h₀.IsList l vs.toArray) (hne : vs ≠ []) (N : News h₀ L s.heap news) (hb : (b, listOf #[] n) ∈ news) (hu : A.units < cLine) (h : Q (.bool false) s) :
    wpAny (model prog w) A (compareOp .Eq (.ref l) (.ref b)) Q E s :=
  PySem.SeqAt.eq_list_lengthsAt (hl.at fun o e => F.keep l o e) ⟨_, (N _ hb).1, rfl, _, rfl⟩ (by simpa using hne) hu h
theorem my_item {value slice : Expr} {l : Addr} {vs : List Value} {k : Int} {u : Tok} {v : Value} (F : Fr h₀ L s.heap m) (hl : h₀.IsList l vs.toArray) (h0 : 0 ≤ k) (h1 : k < 2 ^ 62) (hx : vs[k.toNat]? = some v) (h : Q v s)
    (hs : subscripted slice false (.ref l) (.int k u) = operate [.ref l, .int k u] (getItem (.ref l) (.int k u)) := by with_unfolding_all rfl) (hg : ∀ r, letTemporaryGo value (.ref l) r = pure () := by intro _; with_unfolding_all rfl) :
    wpAny (model prog w) A (subscriptTail value slice (.ref l) (.int k u)) Q E s :=
  item_list (hl.at fun o e => F.keep l o e) h0 (by omega) (by simpa using hx) h hs hg
end

local macro_rules | `(tactic| walk_at "my go") => `(tactic| repeat' (first | (k_unfold; (try dsimp only)) | ((fail_if_success (first | (with_reducible show wpAny _ _ (pyIter _) _ _ _) | (with_reducible show wpAny _ _ (leaving _ _) _ _ _) | (with_reducible show wpAny _ _ (call (Value.ref _) _ _) _ _ _))); (first | walk1 | (dsimp only; walk1))) | ((fail_if_success (with_reducible show wpAny _ _ _ _ _ _)); dsimp only)))
local macro_rules | `(tactic| walk_at "eval Call") => `(tactic| ((with_reducible show wpAny _ _ (eval (Expr.Call (Expr.Name _ _) _ [] _) _) _ _ _); k_dflt (refine Call_ ?_)))
local macro_rules | `(tactic| walk_at "my same") => `(tactic| (intro z h1 h2 h3; (try dsimp only at h2); (try simp only [List.forall_mem_cons, List.not_mem_nil, false_implies, implies_true, and_true, ne_eq] at h2); (try simp only [List.contains_cons, List.contains_nil, Bool.or_false, Bool.or_eq_false_iff, beq_eq_false_iff_ne, ne_eq] at h3); first | (simp [h1, h2, h3, kstB]; done) | (simp_all [kstB]; done)))
local macro_rules | `(tactic| walk_at "call builtin:len") => `(tactic| ((with_reducible show wpAny _ _ (call (Value.builtin "len") [Value.ref _]) _ _ _); (first | refine my_lenI (by with_reducible assumption) (by with_reducible assumption) (by with_reducible assumption) (by with_reducible assumption) ?_ | refine my_len (by with_reducible assumption) (by with_reducible assumption) (by with_reducible assumption) ?_); intro _ _; (try dsimp only)))

local macro_rules | `(tactic| walk_at "my for") => `(tactic| (k_here; (rename Fr _ _ _ _ => lF'); (with_unfolding_all refine' For_invVF lF' ?k1 ?k2 ?_; (case k1 => exact rfl); (case k2 => exact rfl); k_whole)))
local macro_rules | `(tactic| walk_at "exec For Name Subscript cons nil") => `(tactic| walk_at "my for")
local macro_rules | `(tactic| walk_at "exec For Name Call cons nil") => `(tactic| walk_at "my for")
local macro_rules | `(tactic| walk_at "exec For Name Name cons nil") => `(tactic| walk_at "my for")
local macro_rules | `(tactic| walk_at "exec For Name Tuple cons nil") => `(tactic| walk_at "my for")
local macro_rules | `(tactic| walk_at "my enter") => `(tactic| k_dflt (refine' enter (K := Mine.hd.heap_39 _) ?X ?lim ?ho ?hcd ?room ?bind ?loc ?_ ?c2 ?c3 ?c4 ?c5; (case X => assumption); (case lim => exact Top.nolimit (by assumption)); (case ho => k_is); (case hcd => k_is); (case room => (dsimp only; omega)); (case bind => exact BindsTo.of_eq rfl); (case loc => exact locs rfl); (case c2 => exact rfl); (case c3 => exact rfl); (case c4 => exact rfl); (case c5 => decide); k_whole))
local macro_rules | `(tactic| walk_at "compareOp Eq ref ref") => `(tactic| (k_here; (with_unfolding_all (first | (refine' my_nil_tt ?k1 ?k2 ?k3 ?k4 ?k5 ?_; (case k1 => with_reducible assumption); (case k2 => with_reducible assumption); (case k3 => with_reducible assumption); (case k4 => k_mem); (case k5 => ((simp only [units_deeper]); (try dsimp only); omega))) | (refine' my_nil_ff ?k1 ?k2 ?k6 ?k3 ?k4 ?k5 ?_; (case k1 => with_reducible assumption); (case k2 => with_reducible assumption); (case k6 => with_reducible assumption); (case k3 => with_reducible assumption); (case k4 => k_mem); (case k5 => ((simp only [units_deeper]); (try dsimp only); omega)))))))
local macro_rules | `(tactic| walk_at "my item") => `(tactic| (k_here; (with_reducible show wpAny _ _ (subscriptTail _ _ (Value.ref _) (Value.int _ _)) _ _ _); (with_unfolding_all refine' my_item ?k1 ?k2 ?k3 ?k4 ?k5 ?_ ?k6 ?k7; (case k1 => with_reducible assumption); (case k5 => with_reducible assumption); (case k2 => with_reducible assumption); (case k3 => omega); (case k4 => omega); (case k6 => with_unfolding_all rfl); (case k7 => (intro _; with_unfolding_all rfl)); k_whole)))
local macro_rules | `(tactic| walk_at "subscriptTail Name Name ref int") => `(tactic| walk_at "my item")
theorem find_ok (w : World) (loose : List Str) (mean : ExcName → Option Value) (mg mb : Str → Option Value) (dp un : Nat) (gd : Option (List Code)) (outer : List Env) (base : Heap) (s : Shared) (k : Addr) (kvs : List Value) (ks : List Int) (key : Int) (tk : Tok) (Q E : Value → Shared → Prop)
    (C : Cx w loose mean mg mb dp un gd outer base s.heap) (hroom : dp + 5 < recursionLimit)
    (hk : s.heap.IsList k kvs.toArray) (hi : IntsAre kvs ks) (hkl : ks.length ≤ 64) (hs : ks.Pairwise (· < ·))
    (hQ : ∀ r t' h' tk', SlotAt ks key r → Keeps s.heap h' → Q (.int (r : Int) t') { s with heap := h', toks := tk' }) :
    wpAny (model PP w) (ar dp un gd outer) (call (.ref 34) [.ref k, .int key tk]) Q E s := by
  obtain ⟨B, X, T⟩ := C
  walk_at "my enter"
  intro L h₁ F N
  k_fold
  w_on
  walk_at "my go"
  rename IsRange _ _ _ _ _ _ _ _ => R1
  rename Fr _ _ _ _ => F1
  rename News _ _ _ _ => N1
  k_dflt refine range_st (σ := Int × Int × Tok × Tok) (n := ks.length + 1) (fun c => [(Str.ofString "lo", .int c.1 c.2.2.1), (Str.ofString "hi", .int c.2.1 c.2.2.2)]) [Str.ofString "mid"]
    (fun i c => 0 ≤ c.1 ∧ c.1 ≤ c.2.1 ∧ c.2.1 ≤ (ks.length : Int) ∧ (∀ j (hj : j < ks.length), (j : Int) < c.1 → ks[j] < key) ∧ (∀ j (hj : j < ks.length), c.2.1 ≤ (j : Int) → key ≤ ks[j]) ∧ c.2.1 - c.1 + (i : Int) ≤ (ks.length : Int)) (0, (ks.length : Int), _, _)
    rfl R1 (small_one (by omega) (by omega) (by omega) (by omega)) (by rw [rangeSize_nat]; omega) F1 N1 (by kst_all) ⟨by dsimp only; omega, by dsimp only; omega, by dsimp only; omega, by dsimp only; intro j _ h; omega, by dsimp only; intro j hj h; omega, by dsimp only; omega⟩ ?turn ?done
  case done =>
    rintro c u h tk2 ⟨_, _, _, _, _, h5⟩
    omega
  case turn =>
    rintro i ⟨lo, hi3, tl, th⟩ t2 u h2 tk2 own hi2 ⟨g0, g1, g2, g3, g4, g5⟩ F2 N2
    clear F1 N1 R1
    dsimp only at g0 g1 g2 g3 g4 g5 F2
    k_fold
    walk_at "my go"
    · have e : lo = ((lo.toNat : Nat) : Int) := by omega
      rw [e]
      refine hQ lo.toNat tl _ _ ⟨by omega, fun j hj h => g3 j hj (by omega), fun j hj h => g4 j hj (by omega)⟩ (Fr.keep (by assumption))
    · rename ¬ (_ ≤ _) => c1
      rename _ < key => c2
      have hm := mid_is (lo := lo) (hi := hi3) (by omega)
      refine st_end ((lo + hi3).fdiv 2 + 1, hi3, _, th) (by assumption) (by assumption) (fun p hp => hp) (by kst_all) (by walk_at "my same") ⟨?_, ?_, ?_, ?_, ?_, ?_⟩ <;> (try dsimp only)
      · omega
      · omega
      · omega
      · exact bs_lo hs g0 (by omega) g2 c2
      · exact g4
      · omega
    · rename ¬ (_ ≤ _) => c1
      rename ¬ (_ < key) => c2
      have hm := mid_is (lo := lo) (hi := hi3) (by omega)
      refine st_end (lo, (lo + hi3).fdiv 2, tl, _) (by assumption) (by assumption) (fun p hp => hp) (by kst_all) (by walk_at "my same") ⟨?_, ?_, ?_, ?_, ?_, ?_⟩ <;> (try dsimp only)
      · omega
      · omega
      · omega
      · exact g3
      · exact bs_hi hs g0 (by omega) g2 c2
      · omega

/-- one node's count, its children's by what the calls give back -/
theorem count_node (w : World) (loose : List Str) (mean : ExcName → Option Value) (mg mb : Str → Option Value) (dp un : Nat) (gd : Option (List Code)) (outer : List Env) (base : Heap) (s : Shared) (a k u c : Addr) (kvs cvs : List Value) (ks : List Int) (d : Int) (tk : Tok) (f : Nat → Nat) (Q E : Value → Shared → Prop)
    (C : Cx w loose mean mg mb dp un gd outer base s.heap) (hroom : dp + 5 < recursionLimit)
    (ht : IsTup s.heap a [.ref k, .ref u, .ref c].toArray) (hk : s.heap.IsList k kvs.toArray) (hi : IntsAre kvs ks) (hkl : ks.length ≤ 64) (hc : s.heap.IsList c cvs.toArray) (hd : d ≠ 0)
    (child : ∀ (i : Nat) (v : Value) (outer' : List Env) (s' : Shared) (tk' : Tok) (Q' E' : Value → Shared → Prop), cvs[i]? = some v → Cx w loose mean mg mb (dp + 1) (un + 3) gd outer' base s'.heap → Keeps s.heap s'.heap →
      (∀ t' h' tk'', Keeps s'.heap h' → Q' (.int (f i : Int) t') { s' with heap := h', toks := tk'' }) → wpAny (model PP w) (ar (dp + 1) (un + 3) gd outer') (call (.ref 41) [v, .int (d - 1) tk']) Q' E' s')
    (hQ : ∀ t' h' tk', Keeps s.heap h' → Q (.int ((ks.length : Int) + (((List.range cvs.length).map f).sum : Nat)) t') { s with heap := h', toks := tk' }) :
    wpAny (model PP w) (ar dp un gd outer) (call (.ref 41) [.ref a, .int d tk]) Q E s := by
  obtain ⟨B, X, T⟩ := C
  walk_at "my enter"
  intro L h₁ F N
  k_fold
  w_on
  walk_at "my go"
  all_goals (try (exfalso; omega))
  rename Fr _ _ _ _ => F1
  rename News _ _ _ _ => N1
  k_dflt refine list_st (σ := Int × Tok) (fun c => [(Str.ofString "total", .int c.1 c.2)]) []
    (fun i c => c.1 = (ks.length : Int) + (((List.range i).map f).sum : Nat)) ((ks.length : Int), _)
    rfl hc F1 N1 (by kst_all) (by simp) ?turn ?done
  case done =>
    rintro ⟨tot, ttk⟩ u' h tk2 e F2 N2
    dsimp only at e F2
    subst e
    clear F1 N1
    walk_at "my go"
    exact hQ _ _ _ (Fr.keep F2)
  case turn =>
    rintro i ⟨tot, ttk⟩ v u' h2 tk2 own hv e F2 N2
    dsimp only at e F2
    clear F1 N1
    k_fold
    walk_at "my go"
    rename Fr _ _ _ _ => F3
    rename News _ _ _ _ => N3
    k_dflt refine child i v _ _ _ _ _ hv (Cx.push B X T F3 rfl rfl) (Fr.keep F3) ?_
    intro t' h' tk' kp
    have F4 := fr_keeps F3 kp
    have N4 := news_keeps N3 kp
    clear F3 N3
    walk_at "my go"
    refine st_end (tot + (f i : Int), _) (by assumption) (by assumption) (fun p hp => hp) (by kst_all) (by walk_at "my same") ?_
    dsimp only
    rw [e, List.range_succ, List.map_append, List.sum_append]
    simp
    omega

theorem count_ok (w : World) (loose : List Str) (mean : ExcName → Option Value) (mg mb : Str → Option Value) (gd : Option (List Code)) (base : Heap) : ∀ (h : Nat) (t : BT h) (dp un : Nat) (outer : List Env) (s : Shared) (v : Value) (d : Int) (tk : Tok) (Q E : Value → Shared → Prop),
    Cx w loose mean mg mb dp un gd outer base s.heap → dp + h + 5 < recursionLimit → TreeAt s.heap h t v → wf h t → (h : Int) < d →
    (∀ t' h' tk', Keeps s.heap h' → Q (.int ((ino h t).length : Int) t') { s with heap := h', toks := tk' }) →
    wpAny (model PP w) (ar dp un gd outer) (call (.ref 41) [v, .int d tk]) Q E s := by
  intro h
  induction h with
  | zero =>
    rintro t dp un outer s v d tk Q E C hroom ⟨a, k, u, c, kvs, rfl, h1, h2, h3, h4⟩ hw hd hQ
    refine count_node w loose mean mg mb dp un gd outer base s a k u c kvs [] t d tk (fun _ => 0) Q E C (by omega) h1 h2 h3 hw h4 (by omega) (fun i v _ _ _ _ _ hv => by simp at hv) ?_
    intro t' h' tk' kp
    have := hQ t' h' tk' kp
    simpa [ino] using this
  | succ h ih =>
    rintro t dp un outer s v d tk Q E C hroom ⟨a, k, u, c, kvs, cvs, rfl, h1, h2, h3, h4, h5, h6⟩ hw hd hQ
    obtain ⟨w1, w2, w3⟩ := hw
    refine count_node w loose mean mg mb dp un gd outer base s a k u c kvs cvs t.1 d tk (fun i => ((t.2[i]?).map fun c => (ino h c).length).getD 0) Q E C (by omega) h1 h2 h3 w1 h4 (by omega) ?_ ?_
    · intro i v outer' s' tk' Q' E' hv C' kp hQ'
      obtain ⟨hlt, hx⟩ := List.getElem?_eq_some_iff.mp hv
      have hlt' : i < t.2.length := by omega
      have hti : t.2[i]? = some t.2[i] := by simp [hlt']
      refine ih t.2[i] (dp + 1) (un + 3) outer' s' v (d - 1) tk' Q' E' C' (by omega) (TreeP.mono kp.at (h6 i _ v hti hv)) (w3 _ (List.getElem_mem hlt')) (by omega) ?_
      intro t' h' tk'' kp'
      have := hQ' t' h' tk'' kp'
      simpa [hti] using this
    · intro t' h' tk' kp
      have := hQ t' h' tk' kp
      have e : (ino (h + 1) t).length = t.1.length + ((List.range cvs.length).map fun i => ((t.2[i]?).map fun c => (ino h c).length).getD 0).sum := by
        show (weave t.1 (t.2.map (ino h))).length = _
        rw [weave_length _ _ (by simpa using w2), List.map_map, h5, sum_range]
        rfl
      rw [e] at this
      simpa using this

/-- a node at depth nought: DepthError -/
theorem count_zero (w : World) (loose : List Str) (mean : ExcName → Option Value) (mg mb : Str → Option Value) (dp un : Nat) (gd : Option (List Code)) (outer : List Env) (base : Heap) (s : Shared) (v : Value) (tk : Tok) (Q E : Value → Shared → Prop)
    (C : Cx w loose mean mg mb dp un gd outer base s.heap) (hroom : dp + 5 < recursionLimit)
    (hE : ∀ e x vs h' tk', RaisedS base s.heap outer e (.ref 24) x vs [] h' → s.heap.UpToSlots h' → E (.ref e) { s with heap := h', toks := tk' }) :
    wpAny (model PP w) (ar dp un gd outer) (call (.ref 41) [v, .int 0 tk]) Q E s := by
  obtain ⟨B, X, T⟩ := C
  walk_at "my enter"
  intro L h₁ F N
  k_fold
  w_on
  walk_at "my go"
  rename Heap.MadeExcOf _ _ _ _ _ => hx
  refine leave_raiseS B hx F N (fun h' x R RK U => hE _ _ _ _ _ R U)
theorem rank_zero (w : World) (loose : List Str) (mean : ExcName → Option Value) (mg mb : Str → Option Value) (dp un : Nat) (gd : Option (List Code)) (outer : List Env) (base : Heap) (s : Shared) (v v2 : Value) (tk : Tok) (Q E : Value → Shared → Prop)
    (C : Cx w loose mean mg mb dp un gd outer base s.heap) (hroom : dp + 5 < recursionLimit)
    (hE : ∀ e x vs h' tk', RaisedS base s.heap outer e (.ref 24) x vs [] h' → s.heap.UpToSlots h' → E (.ref e) { s with heap := h', toks := tk' }) :
    wpAny (model PP w) (ar dp un gd outer) (call (.ref 48) [v, v2, .int 0 tk]) Q E s := by
  obtain ⟨B, X, T⟩ := C
  walk_at "my enter"
  intro L h₁ F N
  k_fold
  w_on
  walk_at "my go"
  rename Heap.MadeExcOf _ _ _ _ _ => hx
  refine leave_raiseS B hx F N (fun h' x R RK U => hE _ _ _ _ _ R U)
theorem select_zero (w : World) (loose : List Str) (mean : ExcName → Option Value) (mg mb : Str → Option Value) (dp un : Nat) (gd : Option (List Code)) (outer : List Env) (base : Heap) (s : Shared) (v v2 : Value) (tk : Tok) (Q E : Value → Shared → Prop)
    (C : Cx w loose mean mg mb dp un gd outer base s.heap) (hroom : dp + 5 < recursionLimit)
    (hE : ∀ e x vs h' tk', RaisedS base s.heap outer e (.ref 24) x vs [] h' → s.heap.UpToSlots h' → E (.ref e) { s with heap := h', toks := tk' }) :
    wpAny (model PP w) (ar dp un gd outer) (call (.ref 55) [v, v2, .int 0 tk]) Q E s := by
  obtain ⟨B, X, T⟩ := C
  walk_at "my enter"
  intro L h₁ F N
  k_fold
  w_on
  walk_at "my go"
  rename Heap.MadeExcOf _ _ _ _ _ => hx
  refine leave_raiseS B hx F N (fun h' x R RK U => hE _ _ _ _ _ R U)

/-- the depths up to the height: DepthError out of the first path down -/
theorem count_deep (w : World) (loose : List Str) (mean : ExcName → Option Value) (mg mb : Str → Option Value) (gd : Option (List Code)) (base : Heap) : ∀ (h : Nat) (t : BT h) (dp un : Nat) (outer : List Env) (s : Shared) (v : Value) (d : Int) (tk : Tok) (Q E : Value → Shared → Prop),
    Cx w loose mean mg mb dp un gd outer base s.heap → dp + h + 5 < recursionLimit → TreeAt s.heap h t v → wf h t → 0 ≤ d → d ≤ (h : Int) →
    (∀ e x vs h' tk', RaisedS base s.heap outer e (.ref 24) x vs [] h' → s.heap.UpToSlots h' → E (.ref e) { s with heap := h', toks := tk' }) →
    wpAny (model PP w) (ar dp un gd outer) (call (.ref 41) [v, .int d tk]) Q E s := by
  intro h
  induction h with
  | zero =>
    intro t dp un outer s v d tk Q E C hroom ht hw h0 h1 hE
    obtain rfl : d = 0 := by omega
    exact count_zero w loose mean mg mb dp un gd outer base s v tk Q E C (by omega) hE
  | succ h ih =>
    intro t dp un outer s v d tk Q E C hroom ht hw h0 h1 hE
    by_cases hd : d = 0
    · subst hd
      exact count_zero w loose mean mg mb dp un gd outer base s v tk Q E C (by omega) hE
    obtain ⟨a, k, u, c, kvs, cvs, rfl, h1t, h2, h3, h4, h5, h6⟩ := ht
    obtain ⟨w1, w2, w3⟩ := hw
    obtain ⟨B, X, T⟩ := C
    have h1t' := h1t.isTup
    have h2' := h2.isList
    have h4' := h4.isList
    clear h1t h2 h4
    walk_at "my enter"
    intro L h₁ F N
    k_fold
    w_on
    walk_at "my go"
    all_goals (try (exfalso; omega))
    rename Fr _ _ _ _ => F1
    rename News _ _ _ _ => N1
    k_dflt refine list_st (σ := Int × Tok) (fun c => [(Str.ofString "total", .int c.1 c.2)]) [] (fun i _ => i = 0) ((t.1.length : Int), _) rfl h4' F1 N1 (by kst_all) rfl ?turn ?done
    case done =>
      rintro _ u' h tk2 e F2 N2
      omega
    case turn =>
      rintro i ⟨tot, ttk⟩ v u' h2 tk2 own hv e F2 N2
      dsimp only at F2
      subst e
      clear F1 N1
      k_fold
      walk_at "my go"
      rename Fr _ _ _ _ => F3
      rename News _ _ _ _ => N3
      have hlt : 0 < t.2.length := by omega
      have hti : t.2[0]? = some t.2[0] := by simp [hlt]
      k_dflt refine ih t.2[0] (dp + 1) (un + 3) _ _ v (d - 1) _ _ _ (Cx.push B X T F3 rfl rfl) (by omega) (TreeP.mono (Keeps.at (Fr.keep F3)) (h6 0 _ v hti hv)) (w3 _ (List.getElem_mem hlt)) (by omega) (by omega) ?_
      intro e x vs h' tk' R U
      k_unfold
      k_unfold
      exact leave_onS B F3 R U (fun h'' R' RK' U' => hE _ _ _ _ _ R' U')

theorem rank_leaf (w : World) (loose : List Str) (mean : ExcName → Option Value) (mg mb : Str → Option Value) (dp un : Nat) (gd : Option (List Code)) (outer : List Env) (base : Heap) (s : Shared) (a k u c : Addr) (kvs : List Value) (ks : List Int) (key d : Int) (tk tk2 : Tok) (Q E : Value → Shared → Prop)
    (C : Cx w loose mean mg mb dp un gd outer base s.heap) (hroom : dp + 10 < recursionLimit) (hun : un + 20 < cLine)
    (ht : IsTup s.heap a [.ref k, .ref u, .ref c].toArray) (hk : s.heap.IsList k kvs.toArray) (hi : IntsAre kvs ks) (hkl : ks.length ≤ 64) (hs : ks.Pairwise (· < ·)) (hc : s.heap.IsList c [].toArray) (hd : d ≠ 0)
    (hQ : ∀ t' h' tk', Keeps s.heap h' → Q (.int (below key ks : Int) t') { s with heap := h', toks := tk' }) :
    wpAny (model PP w) (ar dp un gd outer) (call (.ref 48) [.ref a, .int key tk2, .int d tk]) Q E s := by
  obtain ⟨B, X, T⟩ := C
  walk_at "my enter"
  intro L h₁ F N
  k_fold
  w_on
  walk_at "my go"
  all_goals (try (exfalso; omega))
  rename Fr _ _ _ _ => F3
  rename News _ _ _ _ => N3
  k_dflt refine find_ok w loose mean mg mb (dp + 1) (un + 3) gd _ base _ k kvs ks key _ _ _ (Cx.push B X T F3 rfl rfl) (by omega) (hk.at fun o e => F3.keep k o e) hi hkl hs ?_
  intro r t' h' tk' hr kp
  have F4 := fr_keeps F3 kp
  have N4 := news_keeps N3 kp
  clear F3 N3
  walk_at "my go"
  rw [hr.below] at hQ
  exact hQ _ _ _ (Fr.keep (by assumption))

theorem rank_ok (w : World) (loose : List Str) (mean : ExcName → Option Value) (mg mb : Str → Option Value) (gd : Option (List Code)) (base : Heap) : ∀ (h : Nat) (t : BT h) (dp un : Nat) (outer : List Env) (s : Shared) (v : Value) (key d : Int) (tk tk2 : Tok) (Q E : Value → Shared → Prop),
    Cx w loose mean mg mb dp un gd outer base s.heap → dp + h + 10 < recursionLimit → un + 3 * h + 20 < cLine → TreeAt s.heap h t v → wf h t → (ino h t).Pairwise (· < ·) → (h : Int) < d →
    (∀ t' h' tk', Keeps s.heap h' → Q (.int (below key (ino h t) : Int) t') { s with heap := h', toks := tk' }) →
    wpAny (model PP w) (ar dp un gd outer) (call (.ref 48) [v, .int key tk2, .int d tk]) Q E s := by
  intro h
  induction h with
  | zero =>
    rintro t dp un outer s v key d tk tk2 Q E C hroom hun ⟨a, k, u, c, kvs, rfl, h1, h2, h3, h4⟩ hw hs hd hQ
    exact rank_leaf w loose mean mg mb dp un gd outer base s a k u c kvs t key d tk tk2 Q E C (by omega) (by omega) h1 h2 h3 hw hs h4 (by omega) hQ
  | succ h ih =>
    rintro t dp un outer s v key d tk tk2 Q E C hroom hun ⟨a, k, u, c, kvs, cvs, rfl, h1t, h2, h3, h4, h5, h6⟩ ⟨w1, w2, w3⟩ hs hd hQ
    obtain ⟨B, X, T⟩ := C
    have h1t' := h1t.isTup
    have h2' := h2.isList
    have h4' := h4.isList
    have hne : cvs ≠ [] := fun e => by rw [e] at h5; simp at h5; omega
    have hlen : (t.2.map (ino h)).length = t.1.length + 1 := by simpa using w2
    have hks : t.1.Pairwise (· < ·) := weave_keys_sorted _ _ hlen hs
    clear h1t h2 h4
    walk_at "my enter"
    intro L h₁ F N
    k_fold
    w_on
    walk_at "my go"
    all_goals (try (exfalso; omega))
    rename Fr _ _ _ _ => F3
    rename News _ _ _ _ => N3
    k_dflt refine find_ok w loose mean mg mb (dp + 1) (un + 3) gd _ base _ k kvs t.1 key _ _ _ (Cx.push B X T F3 rfl rfl) (by omega) (h2'.at fun o e => F3.keep k o e) h3 w1 hks ?_
    intro r t' h' tk' hr kp
    have F4 := fr_keeps F3 kp
    have N4 := news_keeps N3 kp
    clear F3 N3
    have hrl := hr.le
    walk_at "my go"
    rename IsRange _ _ _ _ _ _ _ _ => R1
    rename Fr _ _ _ _ => F1
    rename News _ _ _ _ => N1
    k_dflt refine range_st (σ := Int × Tok) (n := r) (fun c => [(Str.ofString "total", .int c.1 c.2)]) []
      (fun j c => c.1 = (r : Int) + (((List.range j).map fun i => ((t.2[i]?).map fun c => (ino h c).length).getD 0).sum : Nat)) ((r : Int), _)
      rfl R1 (small_one (by omega) (by omega) (by omega) (by omega)) (by rw [rangeSize_nat]; omega) F1 N1 (by kst_all) (by simp) ?turn ?done
    case done =>
      rintro ⟨tot, ttk⟩ u' h2 tk3 e F2 N2
      dsimp only at e F2
      clear F1 N1 R1
      have hlt : r < t.2.length := by omega
      have hti : t.2[r]? = some t.2[r] := by simp [hlt]
      have hvi : cvs[r]? = some cvs[r] := by simp [h5, hlt]
      have hvi' : cvs[((r : Nat) : Int).toNat]? = some cvs[r] := by simpa using hvi
      walk_at "my go"
      rename Fr _ _ _ _ => F3
      rename News _ _ _ _ => N3
      have hmem : t.2[r] ∈ t.2 := List.getElem_mem hlt
      k_dflt refine ih t.2[r] (dp + 1) (un + 3) _ _ _ key (d - 1) _ _ _ _ (Cx.push B X T F3 rfl rfl) (by omega) (by omega) (TreeP.mono (Keeps.at (Fr.keep F3)) (h6 r _ _ hti hvi)) (w3 _ hmem) (weave_child_sorted _ _ hlen hs _ (List.mem_map_of_mem hmem)) (by omega) ?_
      intro t4 h4 tk4 kp4
      have F5 := fr_keeps F3 kp4
      have N5 := news_keeps N3 kp4
      clear F3 N3
      have hrk := rank_weave t.1 (t.2.map (ino h)) key r hlen hs hr (ino h t.2[r]) (by simp [hti])
      have hfin : tot + (below key (ino h t.2[r]) : Int) = (below key (ino (h + 1) t) : Int) := by
        show _ = ((below key (weave t.1 (t.2.map (ino h))) : Nat) : Int)
        rw [hrk, e, sum_range_take (fun c => (ino h c).length) t.2 r (by omega), ← List.map_take, List.map_map]
        simp [Function.comp_def]
      walk_at "my go"
      rw [hfin]
      exact hQ _ _ _ (Fr.keep (by assumption))
    case turn =>
      rintro j ⟨tot, ttk⟩ t2 u' h2 tk3 own hj e F2 N2
      dsimp only at e F2
      clear F1 N1 R1
      k_fold
      have hlt : j < t.2.length := by omega
      have hti : t.2[j]? = some t.2[j] := by simp [hlt]
      have hvi : cvs[j]? = some cvs[j] := by simp [h5, hlt]
      have hvi' : cvs[(0 + (j : Int)).toNat]? = some cvs[j] := by simpa using hvi
      walk_at "my go"
      rename Fr _ _ _ _ => F3
      rename News _ _ _ _ => N3
      k_dflt refine count_ok w loose mean mg mb gd base h t.2[j] (dp + 1) (un + 3) _ _ _ (d - 1) _ _ _ (Cx.push B X T F3 rfl rfl) (by omega) (TreeP.mono (Keeps.at (Fr.keep F3)) (h6 j _ _ hti hvi)) (w3 _ (List.getElem_mem hlt)) (by omega) ?_
      intro t4 h4 tk4 kp4
      have F5 := fr_keeps F3 kp4
      have N5 := news_keeps N3 kp4
      clear F3 N3
      walk_at "my go"
      refine st_end (tot + ((ino h t.2[j]).length : Int), _) (by assumption) (by assumption) (fun p hp => hp) (by kst_all) (by walk_at "my same") ?_
      dsimp only
      rw [e, List.range_succ, List.map_append, List.sum_append]
      simp [hti]
      omega

/-- what the selection gives back -/
def SelOut (x : Option Int) (r : Value) : Prop := match x with
  | some i => ∃ t, r = .int i t
  | none => r = .none
theorem select_leaf (w : World) (loose : List Str) (mean : ExcName → Option Value) (mg mb : Str → Option Value) (dp un : Nat) (gd : Option (List Code)) (outer : List Env) (base : Heap) (s : Shared) (a k u c : Addr) (kvs : List Value) (ks : List Int) (at' d : Int) (tk tk2 : Tok) (Q E : Value → Shared → Prop)
    (C : Cx w loose mean mg mb dp un gd outer base s.heap) (hroom : dp + 10 < recursionLimit) (hun : un + 20 < cLine)
    (ht : IsTup s.heap a [.ref k, .ref u, .ref c].toArray) (hk : s.heap.IsList k kvs.toArray) (hi : IntsAre kvs ks) (hkl : ks.length ≤ 64) (hc : s.heap.IsList c [].toArray) (hd : d ≠ 0) (h0 : 0 ≤ at')
    (hQ : ∀ r h' tk', Keeps s.heap h' → SelOut ks[at'.toNat]? r → Q r { s with heap := h', toks := tk' }) :
    wpAny (model PP w) (ar dp un gd outer) (call (.ref 55) [.ref a, .int at' tk2, .int d tk]) Q E s := by
  obtain ⟨B, X, T⟩ := C
  walk_at "my enter"
  intro L h₁ F N
  k_fold
  w_on
  walk_at "my go"
  all_goals (try (exfalso; omega))
  · rename _ < (ks.length : Int) => c1
    have hl : at'.toNat < ks.length := by omega
    exact hQ _ _ _ (Fr.keep (by assumption)) (by rw [List.getElem?_eq_getElem hl]; exact ⟨_, by rw [getD_at hl]⟩)
  · rename ¬ (_ < (ks.length : Int)) => c1
    have hl : ks.length ≤ at'.toNat := by omega
    exact hQ _ _ _ (Fr.keep (by assumption)) (by rw [List.getElem?_eq_none hl]; exact rfl)

theorem select_ok (w : World) (loose : List Str) (mean : ExcName → Option Value) (mg mb : Str → Option Value) (gd : Option (List Code)) (base : Heap) : ∀ (h : Nat) (t : BT h) (dp un : Nat) (outer : List Env) (s : Shared) (v : Value) (at' d : Int) (tk tk2 : Tok) (Q E : Value → Shared → Prop),
    Cx w loose mean mg mb dp un gd outer base s.heap → dp + h + 10 < recursionLimit → un + 3 * h + 20 < cLine → TreeAt s.heap h t v → wf h t → (h : Int) < d → 0 ≤ at' →
    (∀ r h' tk', Keeps s.heap h' → SelOut (ino h t)[at'.toNat]? r → Q r { s with heap := h', toks := tk' }) →
    wpAny (model PP w) (ar dp un gd outer) (call (.ref 55) [v, .int at' tk2, .int d tk]) Q E s := by
  intro h
  induction h with
  | zero =>
    rintro t dp un outer s v at' d tk tk2 Q E C hroom hun ⟨a, k, u, c, kvs, rfl, h1, h2, h3, h4⟩ hw hd h0 hQ
    exact select_leaf w loose mean mg mb dp un gd outer base s a k u c kvs t at' d tk tk2 Q E C (by omega) (by omega) h1 h2 h3 hw h4 (by omega) h0 hQ
  | succ h ih =>
    rintro t dp un outer s v at' d tk tk2 Q E C hroom hun ⟨a, k, u, c, kvs, cvs, rfl, h1t, h2, h3, h4, h5, h6⟩ ⟨w1, w2, w3⟩ hd h0 hQ
    obtain ⟨B, X, T⟩ := C
    have h1t' := h1t.isTup
    have h2' := h2.isList
    have h4' := h4.isList
    have hne : cvs ≠ [] := fun e => by rw [e] at h5; simp at h5; omega
    have hlen : (t.2.map (ino h)).length = t.1.length + 1 := by simpa using w2
    clear h1t h2 h4
    walk_at "my enter"
    intro L h₁ F N
    k_fold
    w_on
    walk_at "my go"
    all_goals (try (exfalso; omega))
    rename IsRange _ _ _ _ _ _ _ _ => R1
    rename Fr _ _ _ _ => F1
    rename News _ _ _ _ => N1
    k_dflt refine range_st (σ := Int × Tok) (n := t.1.length + 1) (fun c => [(Str.ofString "rest", .int c.1 c.2)]) [Str.ofString "size"]
      (fun i c => 0 ≤ c.1 ∧ (ino (h + 1) t)[at'.toNat]? = (weave (t.1.drop i) ((t.2.map (ino h)).drop i))[c.1.toNat]?) (at', _)
      rfl R1 (small_one (by omega) (by omega) (by omega) (by omega)) (by rw [rangeSize_nat]; omega) F1 N1 (by kst_all) ⟨h0, by simp [ino]⟩ ?turn ?done
    case done =>
      rintro ⟨rest, ttk⟩ u' h2 tk3 ⟨g0, g1⟩ F2 N2
      dsimp only at g0 g1 F2
      clear F1 N1 R1
      walk_at "my go"
      rw [List.drop_of_length_le (by omega), List.drop_of_length_le (by omega)] at g1
      exact hQ _ _ _ (Fr.keep (by assumption)) (by rw [g1]; simp [weave, SelOut])
    case turn =>
      rintro i ⟨rest, ttk⟩ t2 u' h2 tk3 own hj ⟨g0, g1⟩ F2 N2
      dsimp only at g0 g1 F2
      clear F1 N1 R1
      k_fold
      have hlt : i < t.2.length := by omega
      have hti : t.2[i]? = some t.2[i] := by simp [hlt]
      have hvi : cvs[i]? = some cvs[i] := by simp [h5, hlt]
      have hvi' : cvs[(0 + (i : Int)).toNat]? = some cvs[i] := by simpa using hvi
      have hmem : t.2[i] ∈ t.2 := List.getElem_mem hlt
      walk_at "my go"
      rename Fr _ _ _ _ => F3
      rename News _ _ _ _ => N3
      k_dflt refine count_ok w loose mean mg mb gd base h t.2[i] (dp + 1) (un + 3) _ _ _ (d - 1) _ _ _ (Cx.push B X T F3 rfl rfl) (by omega) (TreeP.mono (Keeps.at (Fr.keep F3)) (h6 i _ _ hti hvi)) (w3 _ hmem) (by omega) ?_
      intro t4 h4 tk4 kp4
      have F5 := fr_keeps F3 kp4
      have N5 := news_keeps N3 kp4
      clear F3 N3
      have hlt' : i < (t.2.map (ino h)).length := by simpa using hlt
      have hdc : (t.2.map (ino h)).drop i = ino h t.2[i] :: (t.2.map (ino h)).drop (i + 1) := by
        rw [List.drop_eq_getElem_cons hlt']; simp
      rw [hdc] at g1
      walk_at "my go"
      · rename _ < ((ino h t.2[i]).length : Int) => c1
        rename Fr _ _ _ _ => F6
        rename News _ _ _ _ => N6
        k_dflt refine ih t.2[i] (dp + 1) (un + 3) _ _ _ rest (d - 1) _ _ _ _ (Cx.push B X T F6 rfl rfl) (by omega) (by omega) (TreeP.mono (Keeps.at (Fr.keep F6)) (h6 i _ _ hti hvi)) (w3 _ hmem) (by omega) g0 ?_
        intro r h7 tk7 kp7 so
        have F7 := fr_keeps F6 kp7
        have N7 := news_keeps N6 kp7
        clear F6 N6
        walk_at "my go"
        refine hQ _ _ _ (Fr.keep (by assumption)) ?_
        rw [g1, weave_step_lt (by omega) (fun e => List.drop_of_length_le (by simp at e; omega))]
        exact so
      · rename ¬ (_ < ((ino h t.2[i]).length : Int)) => c1
        rename _ < (t.1.length : Int) => c2
        rename _ = (0 : Int) => c3
        have hl : i < t.1.length := by omega
        rw [List.drop_eq_getElem_cons hl, show rest.toNat = (ino h t.2[i]).length by omega, weave_step_key] at g1
        refine hQ _ _ _ (Fr.keep (by assumption)) ?_
        rw [g1]
        have e1 : (0 + (i : Int)).toNat = i := by omega
        exact ⟨_, by rw [e1, getD_at hl]⟩
      · rename ¬ (_ < ((ino h t.2[i]).length : Int)) => c1
        rename _ < (t.1.length : Int) => c2
        rename _ ≠ (0 : Int) => c3
        have hl : i < t.1.length := by omega
        refine st_end (rest - ((ino h t.2[i]).length : Int) - 1, _) (by assumption) (by assumption) (fun p hp => hp) (by kst_all) (by walk_at "my same") ⟨?_, ?_⟩ <;> (try dsimp only)
        · omega
        · rw [g1, List.drop_eq_getElem_cons hl, weave_step_on (by omega)]
          congr 1
          omega
      · rename ¬ (_ < ((ino h t.2[i]).length : Int)) => c1
        rename ¬ (_ < (t.1.length : Int)) => c2
        refine st_end (rest - ((ino h t.2[i]).length : Int), _) (by assumption) (by assumption) (fun p hp => hp) (by kst_all) (by walk_at "my same") ⟨?_, ?_⟩ <;> (try dsimp only)
        · omega
        · rw [g1, show t.1.drop i = [] from List.drop_of_length_le (by omega), show t.1.drop (i + 1) = [] from List.drop_of_length_le (by omega), show (t.2.map (ino h)).drop (i + 1) = [] from List.drop_of_length_le (by omega), weave_step_end (by omega)]
          simp [weave]

/-- all stays, but that the frames below may have other slots -/
def KeepsT (fs : List Addr) (h h' : Heap) : Prop := ∃ g', KtsTurn fs h g' ∧ Keeps g' h'
theorem KeepsT.of {fs : List Addr} {h h' : Heap} (k : Keeps h h') : KeepsT fs h h' := ⟨h, KtsTurn.refl, k⟩
theorem lcount_ok (w : World) (loose : List Str) (mean : ExcName → Option Value) (mg mb : Str → Option Value) (gd : Option (List Code)) (base : Heap) (h : Nat) (t : BT h) (dp un : Nat) (outer : List Env) (s : Shared) (v : Value) (d : Int) (tk : Tok) (Q E : Value → Shared → Prop)
    (C : Cx w loose mean mg mb dp un gd outer base s.heap) (hroom : dp + h + 15 < recursionLimit) (hun : un + 3 * h + 30 < cLine) (ht : TreeAt s.heap h t v) (hw : wf h t) (hd : (h : Int) < d)
    (hQ : ∀ t' h' tk', Keeps s.heap h' → Q (.int ((ino h t).length : Int) t') { s with heap := h', toks := tk' }) :
    wpAny (model PP w) (ar dp un gd outer) (call (.ref 107) [v, .int d tk]) Q E s := by
  obtain ⟨B, X, T⟩ := C
  walk_at "my enter"
  intro L h₁ F N
  k_fold
  w_on
  walk_at "my go"
  rename Fr _ _ _ _ => F3
  rename News _ _ _ _ => N3
  k_dflt refine count_ok w loose mean mg mb gd base h t (dp + 1) (un + 3) _ _ v d _ _ _ (Cx.push B X T F3 rfl rfl) (by omega) (TreeP.mono (Keeps.at (Fr.keep F3)) ht) hw hd ?_
  intro t4 h4 tk4 kp
  have F5 := fr_keeps F3 kp
  have N5 := news_keeps N3 kp
  clear F3 N3
  walk_at "my go"
  exact hQ _ _ _ (Fr.keep (by assumption))
theorem lrank_ok (w : World) (loose : List Str) (mean : ExcName → Option Value) (mg mb : Str → Option Value) (gd : Option (List Code)) (base : Heap) (h : Nat) (t : BT h) (dp un : Nat) (outer : List Env) (s : Shared) (v : Value) (key : Int) (d : Int) (tk tk2 : Tok) (Q E : Value → Shared → Prop)
    (C : Cx w loose mean mg mb dp un gd outer base s.heap) (hroom : dp + h + 15 < recursionLimit) (hun : un + 3 * h + 30 < cLine) (ht : TreeAt s.heap h t v) (hw : wf h t) (hs : (ino h t).Pairwise (· < ·)) (hd : (h : Int) < d)
    (hQ : ∀ t' h' tk', Keeps s.heap h' → Q (.int (below key (ino h t) : Int) t') { s with heap := h', toks := tk' }) :
    wpAny (model PP w) (ar dp un gd outer) (call (.ref 114) [v, .int key tk2, .int d tk]) Q E s := by
  obtain ⟨B, X, T⟩ := C
  walk_at "my enter"
  intro L h₁ F N
  k_fold
  w_on
  walk_at "my go"
  rename Fr _ _ _ _ => F3
  rename News _ _ _ _ => N3
  k_dflt refine rank_ok w loose mean mg mb gd base h t (dp + 1) (un + 3) _ _ v key d _ _ _ _ (Cx.push B X T F3 rfl rfl) (by omega) (by omega) (TreeP.mono (Keeps.at (Fr.keep F3)) ht) hw hs hd ?_
  intro t4 h4 tk4 kp
  have F5 := fr_keeps F3 kp
  have N5 := news_keeps N3 kp
  clear F3 N3
  walk_at "my go"
  exact hQ _ _ _ (Fr.keep (by assumption))
theorem lselect_ok (w : World) (loose : List Str) (mean : ExcName → Option Value) (mg mb : Str → Option Value) (gd : Option (List Code)) (base : Heap) (h : Nat) (t : BT h) (dp un : Nat) (outer : List Env) (s : Shared) (v : Value) (at' : Int) (d : Int) (tk tk2 : Tok) (Q E : Value → Shared → Prop)
    (C : Cx w loose mean mg mb dp un gd outer base s.heap) (hroom : dp + h + 15 < recursionLimit) (hun : un + 3 * h + 30 < cLine) (ht : TreeAt s.heap h t v) (hw : wf h t) (h0 : 0 ≤ at') (hd : (h : Int) < d)
    (hQ : ∀ r h' tk', Keeps s.heap h' → SelOut (ino h t)[at'.toNat]? r → Q r { s with heap := h', toks := tk' }) :
    wpAny (model PP w) (ar dp un gd outer) (call (.ref 121) [v, .int at' tk2, .int d tk]) Q E s := by
  obtain ⟨B, X, T⟩ := C
  walk_at "my enter"
  intro L h₁ F N
  k_fold
  w_on
  walk_at "my go"
  rename Fr _ _ _ _ => F3
  rename News _ _ _ _ => N3
  k_dflt refine select_ok w loose mean mg mb gd base h t (dp + 1) (un + 3) _ _ v at' d _ _ _ _ (Cx.push B X T F3 rfl rfl) (by omega) (by omega) (TreeP.mono (Keeps.at (Fr.keep F3)) ht) hw hd h0 ?_
  intro r h4 tk4 kp so
  have F5 := fr_keeps F3 kp
  have N5 := news_keeps N3 kp
  clear F3 N3
  walk_at "my go"
  exact hQ _ _ _ (Fr.keep (by assumption)) so
theorem lcount_deep (w : World) (loose : List Str) (mean : ExcName → Option Value) (mg mb : Str → Option Value) (gd : Option (List Code)) (base : Heap) (h : Nat) (t : BT h) (dp un : Nat) (outer : List Env) (s : Shared) (v : Value) (d : Int) (tk : Tok) (Q E : Value → Shared → Prop)
    (C : Cx w loose mean mg mb dp un gd outer base s.heap) (XB : (Mine.hd.heap_39 w.params).In base) (TB : Top Mine.hd.view_39 loose mean mg mb base) (D : KtsDicts (outer.filterMap (·.frame)) s.heap) (hroom : dp + h + 15 < recursionLimit) (ht : TreeAt s.heap h t v) (hw : wf h t) (h0 : 0 ≤ d) (h1 : d ≤ (h : Int))
    (hQ : ∀ t' h' tk', KeepsT (outer.filterMap (·.frame)) s.heap h' → Q (.str (Str.ofString "deep") t') { s with heap := h', toks := tk' }) :
    wpAny (model PP w) (ar dp un gd outer) (call (.ref 107) [v, .int d tk]) Q E s := by
  obtain ⟨B, X, T⟩ := C
  walk_at "my enter"
  intro L h₁ F N
  k_fold
  w_on
  walk_at "my go"
  rename Fr _ _ _ _ => F3
  rename News _ _ _ _ => N3
  k_dflt refine count_deep w loose mean mg mb gd base h t (dp + 1) (un + 3) _ _ v d _ _ _ (Cx.push B X T F3 rfl rfl) (by omega) (TreeP.mono (Keeps.at (Fr.keep F3)) ht) hw h0 h1 ?_
  intro e x vs h' tk' R U
  dsimp only
  k_dflt (refine' caught_SO0 (KF := Mine.hd.heap_39 w.params) R F3 B U XB TB D KtsTurn.refl ?ex ?q ?_; (case ex => k_is); (case q => kts_isx))
  intro h' g' news₂ T5 F5 N5 G5 N6 B5 X5 P5 D5
  clear F3 N3 N6
  walk_at "my go"
  exact hQ _ _ _ ⟨g', T5, Fr.keep (by assumption)⟩
theorem lrank_deep (w : World) (loose : List Str) (mean : ExcName → Option Value) (mg mb : Str → Option Value) (gd : Option (List Code)) (base : Heap) (dp un : Nat) (outer : List Env) (s : Shared) (v v2 : Value) (tk : Tok) (Q E : Value → Shared → Prop)
    (C : Cx w loose mean mg mb dp un gd outer base s.heap) (XB : (Mine.hd.heap_39 w.params).In base) (TB : Top Mine.hd.view_39 loose mean mg mb base) (D : KtsDicts (outer.filterMap (·.frame)) s.heap) (hroom : dp + 15 < recursionLimit)
    (hQ : ∀ t' h' tk', KeepsT (outer.filterMap (·.frame)) s.heap h' → Q (.str (Str.ofString "deep") t') { s with heap := h', toks := tk' }) :
    wpAny (model PP w) (ar dp un gd outer) (call (.ref 114) [v, v2, .int 0 tk]) Q E s := by
  obtain ⟨B, X, T⟩ := C
  walk_at "my enter"
  intro L h₁ F N
  k_fold
  w_on
  walk_at "my go"
  rename Fr _ _ _ _ => F3
  rename News _ _ _ _ => N3
  k_dflt refine rank_zero w loose mean mg mb (dp + 1) (un + 3) gd _ base _ v v2 _ _ _ (Cx.push B X T F3 rfl rfl) (by omega) ?_
  intro e x vs h' tk' R U
  dsimp only
  k_dflt (refine' caught_SO0 (KF := Mine.hd.heap_39 w.params) R F3 B U XB TB D KtsTurn.refl ?ex ?q ?_; (case ex => k_is); (case q => kts_isx))
  intro h' g' news₂ T5 F5 N5 G5 N6 B5 X5 P5 D5
  clear F3 N3 N6
  walk_at "my go"
  exact hQ _ _ _ ⟨g', T5, Fr.keep (by assumption)⟩
theorem lselect_deep (w : World) (loose : List Str) (mean : ExcName → Option Value) (mg mb : Str → Option Value) (gd : Option (List Code)) (base : Heap) (dp un : Nat) (outer : List Env) (s : Shared) (v v2 : Value) (tk : Tok) (Q E : Value → Shared → Prop)
    (C : Cx w loose mean mg mb dp un gd outer base s.heap) (XB : (Mine.hd.heap_39 w.params).In base) (TB : Top Mine.hd.view_39 loose mean mg mb base) (D : KtsDicts (outer.filterMap (·.frame)) s.heap) (hroom : dp + 15 < recursionLimit)
    (hQ : ∀ t' h' tk', KeepsT (outer.filterMap (·.frame)) s.heap h' → Q (.str (Str.ofString "deep") t') { s with heap := h', toks := tk' }) :
    wpAny (model PP w) (ar dp un gd outer) (call (.ref 121) [v, v2, .int 0 tk]) Q E s := by
  obtain ⟨B, X, T⟩ := C
  walk_at "my enter"
  intro L h₁ F N
  k_fold
  w_on
  walk_at "my go"
  rename Fr _ _ _ _ => F3
  rename News _ _ _ _ => N3
  k_dflt refine select_zero w loose mean mg mb (dp + 1) (un + 3) gd _ base _ v v2 _ _ _ (Cx.push B X T F3 rfl rfl) (by omega) ?_
  intro e x vs h' tk' R U
  dsimp only
  k_dflt (refine' caught_SO0 (KF := Mine.hd.heap_39 w.params) R F3 B U XB TB D KtsTurn.refl ?ex ?q ?_; (case ex => k_is); (case q => kts_isx))
  intro h' g' news₂ T5 F5 N5 G5 N6 B5 X5 P5 D5
  clear F3 N3 N6
  walk_at "my go"
  exact hQ _ _ _ ⟨g', T5, Fr.keep (by assumption)⟩

theorem leaf_ok (w : World) (loose : List Str) (mean : ExcName → Option Value) (mg mb : Str → Option Value) (gd : Option (List Code)) (base : Heap) (dp un : Nat) (outer : List Env) (s : Shared) (p : Addr) (pvs : List Value) (ps : List Int) (at' size : Int) (tk tk2 : Tok) (Q E : Value → Shared → Prop)
    (C : Cx w loose mean mg mb dp un gd outer base s.heap) (hroom : dp + 15 < recursionLimit) (hun : un + 30 < cLine)
    (hp : s.heap.IsList p pvs.toArray) (hi : IntsAre pvs ps) (hl : ps.length = 24) (h0 : 0 ≤ at') (h1 : 0 ≤ size) (h2 : at' + size ≤ 24)
    (hQ : ∀ v (tl : List (Addr × Obj)) h' tk', Keeps s.heap h' → (∀ q ∈ tl, h'.get? q.1 = some q.2 ∧ s.heap.get? q.1 = none) → TreeP (fun a o => (a, o) ∈ tl) 0 ((ps.drop at'.toNat).take size.toNat) v → Q v { s with heap := h', toks := tk' }) :
    wpAny (model PP w) (ar dp un gd outer) (call (.ref 88) [.ref p, .int at' tk2, .int size tk]) Q E s := by
  obtain ⟨B, X, T⟩ := C
  walk_at "my enter"
  intro L h₁ F N
  k_fold
  w_on
  walk_at "my go"
  rename News _ _ _ _ => NE
  rename IntsAre _ (List.take _ _) => hI
  have e : List.take (min (at' + size).toNat ps.length - at'.toNat) (List.drop at'.toNat ps) = (ps.drop at'.toNat).take size.toNat := by
    congr 1; omega
  rw [e] at hI
  exact hQ _ _ _ _ (Fr.keep (by assumption)) (fun q hq => ⟨(NE q hq).1, (NE q hq).2.2⟩)
    ⟨_, _, _, _, _, rfl, ⟨_, .head _, rfl, _, rfl⟩, ⟨_, .tail _ (.tail _ (.tail _ (.head _))), rfl, _, rfl⟩, hI, ⟨_, .tail _ (.head _), rfl, _, rfl⟩⟩

theorem cell_ok (w : World) (loose : List Str) (mean : ExcName → Option Value) (mg mb : Str → Option Value) (gd : Option (List Code)) (base : Heap) (dp un : Nat) (outer : List Env) (s : Shared) (l : Addr) (svs : List Value) (ns : List Int) (i : Int) (tk : Tok) (Q E : Value → Shared → Prop)
    (C : Cx w loose mean mg mb dp un gd outer base s.heap) (hroom : dp + 5 < recursionLimit)
    (hp : s.heap.IsList l svs.toArray) (hi : IntsAre svs ns) (hl : ns.length ≤ 64) (h0 : 0 ≤ i)
    (hQ : ∀ t' h' tk', Keeps s.heap h' → Q (.int (ns.getD i.toNat 0) t') { s with heap := h', toks := tk' }) :
    wpAny (model PP w) (ar dp un gd outer) (call (.ref 71) [.ref l, .int i tk]) Q E s := by
  obtain ⟨B, X, T⟩ := C
  walk_at "my enter"
  intro L h₁ F N
  k_fold
  w_on
  walk_at "my go"
  · exact hQ _ _ _ (Fr.keep (by assumption))
  · rename ¬ (_ < (ns.length : Int)) => c1
    have e : ns.getD i.toNat 0 = 0 := by
      rw [List.getD_eq_getElem?_getD, List.getElem?_eq_none (by omega)]; rfl
    rw [e] at hQ
    exact hQ _ _ _ (Fr.keep (by assumption))

local macro_rules | `(tactic| walk_at "my go") => `(tactic| repeat' (first | (k_unfold; (try dsimp only)) | ((with_reducible show wpAny _ _ (call (Value.ref 71) _ _) _ _ _); (rename Fr _ _ _ _ => Fc); (rename News _ _ _ _ => Nc); (k_dflt refine cell_ok _ _ _ _ _ _ _ _ _ _ _ _ _ _ _ _ _ _ (Cx.push (by assumption) (by assumption) (by assumption) Fc rfl rfl) (by first | omega | ((try simp only [depth_deeper]); (try dsimp only); omega) | exact Nat.le_of_ble_eq_true rfl) (Heap.IsList.at (by assumption) fun o e => Fr.keep Fc _ o e) (by assumption) (by assumption) (by first | omega | ((rw [Int.fmod_eq_emod_of_nonneg _ (by decide)]); omega)) ?_); intro tc hc tkc kc; (have Fd := fr_keeps Fc kc); (have Nd := news_keeps Nc kc); clear Fc Nc; (try dsimp only)) | ((fail_if_success (first | (with_reducible show wpAny _ _ (pyIter _) _ _ _) | (with_reducible show wpAny _ _ (leaving _ _) _ _ _) | (with_reducible show wpAny _ _ (call (Value.ref _) _ _) _ _ _) | (with_reducible show wpAny _ _ (exec (Stmt.Assign [Expr.Name (Str.ofString "depth") _] _ _) _) _ _ _) | (with_reducible show wpAny _ _ (eval (Expr.ListComp _ [⟨_, _, [_], _⟩] _ _) _) _ _ _))); (first | walk1 | (dsimp only; walk1))) | ((fail_if_success (with_reducible show wpAny _ _ _ _ _ _)); dsimp only)))
theorem ints_snoc {vs : List Value} {ns : List Int} {x : Int} {t : Tok} (h : IntsAre vs ns) : IntsAre (vs ++ [.int x t]) (ns ++ [x]) := by
  induction h with
  | nil => exact .cons _ _ .nil
  | cons n t _ ih => exact .cons _ _ ih
theorem pool_ok (w : World) (loose : List Str) (mean : ExcName → Option Value) (mg mb : Str → Option Value) (gd : Option (List Code)) (base : Heap) (dp un : Nat) (outer : List Env) (s : Shared) (l : Addr) (svs : List Value) (ns : List Int) (Q E : Value → Shared → Prop)
    (C : Cx w loose mean mg mb dp un gd outer base s.heap) (hroom : dp + 10 < recursionLimit)
    (hS : s.heap.IsList l svs.toArray) (hi : IntsAre svs ns) (hl : ns.length ≤ 64)
    (hQ : ∀ D n pvs ps h' tk', Keeps s.heap h' → h'.get? D = some (listOf (List.toArray pvs) n) → s.heap.get? D = none → IntsAre pvs ps → ps.length = 24 → ps.Pairwise (· < ·) → Q (.ref D) { s with heap := h', toks := tk' }) :
    wpAny (model PP w) (ar dp un gd outer) (call (.ref 78) [.ref l]) Q E s := by
  obtain ⟨B, X, T⟩ := C
  walk_at "my enter"
  intro L h₁ F N
  k_fold
  w_on
  walk_at "my go"
  rename IsRange _ _ _ _ _ _ _ _ => R1
  rename Fr _ _ _ _ => F1
  rename News _ _ _ _ => N1
  k_dflt refine kst_range (σ := List Value × List Int × Nat) (n := 23) (fun c => [(_, listOf c.1.toArray c.2.2)]) (fun _ => []) (fun c => IntsAre c.1 c.2.1) []
    (fun pre c => c.2.1.length = pre.length + 1 ∧ c.2.1.Pairwise (· < ·)) ([.int (ns.getD (Int.toNat 1) 0) _], [ns.getD (Int.toNat 1) 0], 0)
    rfl R1 (small_one (by omega) (by omega) (by omega) (by omega)) (by rw [rangeSize_nat]; omega) F1 N1 (.cons _ _ .nil) (by kst_all) ⟨rfl, List.pairwise_singleton _ _⟩ ?turn ?done
  case done =>
    rintro ⟨pvs, ps, ep⟩ u' h2 tk2 f ⟨e1, e2⟩ F2 N2
    dsimp only at e1 e2 F2 f N2
    clear F1 N1 R1
    walk_at "my go"
    have NE := N2 _ (.head _)
    exact hQ _ _ _ _ _ _ (Fr.keep (by assumption)) NE.1 NE.2.2 f (by rw [e1, rangeKs_length]) e2
  case turn =>
    rintro ⟨pvs, ps, ep⟩ pre k t u' h2 tk2 own hk hpre hoff f ⟨e1, e2⟩ F2 N2
    dsimp only at e1 e2 F2 f N2 hoff
    clear F1 N1 R1
    k_fold
    subst hk
    walk_at "my go"
    rename News _ _ _ _ => NE
    simp only [List.push_toArray] at NE
    refine kst_end (pvs ++ [_], ps ++ [ps.getD (0 + (pre.length : Int)).toNat 0 + 1 + (ns.getD (12 + (0 + (pre.length : Int)).fmod 12).toNat 0).fmod 3], ep + 1) (by assumption) NE (fun p hp => by rw [List.mem_singleton.mp hp]; exact .head _) (fun p hp => .tail _ hp) rfl ?hf (by kst_all) (by walk_at "my same") ?hp
    case hf => exact ints_snoc f
    case hp =>
      refine ⟨by simp [e1], ?_⟩
      dsimp only
      refine pool_step (n := pre.length) e1 e2 ?_
      rw [show (0 + (pre.length : Int)).toNat = pre.length by omega, Int.fmod_eq_emod_of_nonneg (ns.getD _ 0) (show (0 : Int) ≤ 3 by decide)]
      omega

section
variable {prog : Program} {w : World} {A : Around} {E : Value → Shared → Prop} {s : Shared} {Q : Value → Shared → Prop} {K : Frag}
    {name qual : Str} {params : Arguments} {body : List Stmt} {scope : Scope} {dV kV doc pm cdv ct oc : Value} {an od : Option Addr} {osl : Array (Option Value)} {f : Addr} {vs : List Value} {binds : List (Str × Value)}
/-- a call of a def with cells, its base the whole heap -/
theorem enterC (X : K.In s.heap) (hlim : s.heap.NoLimit) (ho : K.lookup f = some ⟨oc, od, .func (fnOf name qual params body scope dV kV doc pm an cdv ct), osl⟩) (hcd : codeIn K cdv qual = true) (hroom : A.depth < recursionLimit)
    (hbind : BindsTo s (fnOf name qual params body scope dV kV doc pm an cdv ct) ⟨vs, []⟩ binds) (hkind : (binds.all fun y => scope.names.lookup y.1 == some .local || scope.names.lookup y.1 == some .cell) = true)
    (hnd : ((cellsFrom 0 scope.names []).map (·.1)).Nodup)
    (h : ∀ L h₁ tk cells, Fr s.heap L h₁ (bindL (envOfC qual scope L f cdv).kindOf binds fun _ => none) → News s.heap L h₁ cells → CellsAre (bindC (envOfC qual scope L f cdv).kindOf binds fun _ => none) (cellsFrom (L + 1) scope.names []) cells →
      wpAny (model prog w) (A.deeper (envOfC qual scope L f cdv)) (execs body (envOfC qual scope L f cdv))
        (fun fl s' => Q (match fl with | .ret v => v | _ => .none) s')
        (fun e s' => wpAny (model prog w) (A.deeper (envOfC qual scope L f cdv)) (leaving (envOfC qual scope L f cdv) e) (fun _ s'' => E e s'') (fun e' s'' => E e' s'') s')
        { s with heap := h₁, toks := tk })
    (hco : scope.isCoroutine = false) (hgen : scope.isGenerator = false) (hk : scope.kind = .function) : wpAny (model prog w) A (call (.ref f) vs) Q E s := by
  refine wpAny_call (codeAny_call_function hroom (X _ _ ho) rfl hco hgen rfl (codeRec_of X hcd) (hbind _ _ _ _ ?_))
  refine wpAny_newFunctionEnv_cells hk (kindsX hkind _) fun env' he s' x => ?_
  subst he
  refine ⟨hlim.keeps x.toInCall.keep, codeAny_func ?_⟩
  obtain ⟨h₁, tk, rfl, _⟩ := x.done
  have hk₁ := x.toInCall.keep
  obtain ⟨cells, NC, Y⟩ := Cl.news (h₀ := s.heap) (Nat.le_refl _) fun n c hm => ⟨x.cell n c (lookup_of_mem_nodup (cellsFrom_names scope.names 0 (s.heap.objs.size + 1) [] [] rfl ▸ hnd) hm), x.above n c hm⟩
  exact h s.heap.objs.size h₁ tk cells ⟨x.toInCall.ns, hk₁, Nat.le_refl _⟩ NC Y
end

section
open LCg
variable {prog : Program} {w : World} {A : Around} {s : Shared} {h₀ : Heap} {L : Addr} {m : Str → Option Value} {env : Env}
def CompOk (h₀ : Heap) (L : Addr) (m : Str → Option Value) (s : Shared) (all : List (Addr × Obj)) (R : Value → Prop) (y : Value) (s₂ : Shared) : Prop :=
  ∃ h' tk', s₂ = { s with heap := h', toks := tk' } ∧ Fr h₀ L h' m ∧ News h₀ L h' all ∧ R y
theorem comp_rest {elt : Expr} {x : Str} {scope : Scope} {cl : List (Str × Addr)} {S : List (Addr × Obj) → Prop} {P : Nat → Value → Prop} {Fin : List Value → List (Addr × Obj) → Prop} {n : Nat} {news : List (Addr × Obj)} (R : Nat → List Value → Prop) (h0 : R 0 [])
    (step : ∀ i ys v I oI C oC D m₂ h tk (E' : Value → Shared → Prop), i < n → R i ys → P i v → NsObj oC m₂ → m₂ x = some v → Fr h₀ L h m → News h₀ L h ((I, oI) :: (C, oC) :: (D, lst ys) :: news) → Off3 I C D news → ((@Ne Nat I C) ∧ (@Ne Nat I D) ∧ (@Ne Nat C D)) →
      wpAny (model prog w) A (eval elt (compEnvC scope cl C env)) (CompOk h₀ L m { s with heap := h, toks := tk } ((I, oI) :: (C, oC) :: (D, lst ys) :: news) (fun y => R (i + 1) (ys ++ [y]))) E' { s with heap := h, toks := tk })
    (hS : S news) (fin : ∀ ys, R n ys → Fin ys news) : CompRest prog w A h₀ L m env elt x scope cl s S P Fin n 0 [] news := by
  have main : ∀ k i ys, i + k = n → R i ys → CompRest prog w A h₀ L m env elt x scope cl s S P Fin k i ys news := by
    intro k
    induction k with
    | zero => intro i ys e r; exact CompRest.zero (fin ys (by rw [show i = n by omega] at r; exact r))
    | succ k ih =>
      intro i ys e r
      refine CompRest.succ ?_
      intro v I oI C oC D m₂ h tk E' hP hoC hx F N off ne
      refine wpAny_mono (step i ys v I oI C oC D m₂ h tk E' (by omega) r hP hoC hx F N off ne) (fun y s₂ h₂ => ?_) fun _ _ e => e
      obtain ⟨h', tk', rfl, F', N', r'⟩ := h₂
      exact ⟨h', tk', news, rfl, F', N', off, hS, ih (i + 1) (ys ++ [y]) (by omega) r'⟩
  exact main n 0 [] (by omega) h0
end
theorem sizes_ok (w : World) (loose : List Str) (mean : ExcName → Option Value) (mg mb : Str → Option Value) (gd : Option (List Code)) (base : Heap) (dp un : Nat) (outer : List Env) (s : Shared) (l : Addr) (svs : List Value) (ns : List Int) (t most b : Int) (tk1 tk2 tk3 : Tok) (Q E : Value → Shared → Prop)
    (C : Cx w loose mean mg mb dp un gd outer base s.heap) (hroom : dp + 10 < recursionLimit) (hun : un + 30 < cLine)
    (hS : s.heap.IsList l svs.toArray) (hi : IntsAre svs ns) (hl : ns.length ≤ 64) (ht : 2 ≤ t ∧ t ≤ 4) (hm : 2 ≤ most ∧ most ≤ 3) (hb : 0 ≤ b ∧ b ≤ 8)
    (hQ : ∀ D n zvs (zs : List Int) h' tk', Keeps s.heap h' → h'.get? D = some (listOf (List.toArray zvs) n) → s.heap.get? D = none → IntsAre zvs zs → 2 ≤ zs.length → (zs.length : Int) ≤ most + 1 → (∀ z ∈ zs, t - 1 ≤ z ∧ z ≤ 2 * t - 1) → Q (.ref D) { s with heap := h', toks := tk' }) :
    wpAny (model PP w) (ar dp un gd outer) (call (.ref 83) [.ref l, .int t tk1, .int most tk2, .int b tk3]) Q E s := by
  obtain ⟨B, X, T⟩ := C
  k_dflt (refine' enterC (K := Mine.hd.heap_39 _) ?X ?lim ?ho ?hcd ?room ?bind ?kind ?nd ?_ ?c2 ?c3 ?c4; (case X => assumption); (case lim => exact Top.nolimit (by assumption)); (case ho => k_is); (case hcd => k_is); (case room => (dsimp only; omega)); (case bind => exact BindsTo.of_eq rfl); (case kind => exact rfl); (case nd => decide); (case c2 => exact rfl); (case c3 => exact rfl); (case c4 => exact rfl); k_whole)
  intro L h₁ tk cells F N CA
  k_fold
  k_cells CA
  w_on
  walk_at "my go"
  rename IsRange _ _ _ _ _ _ _ _ => R1
  rename Fr _ _ _ _ => F1
  rename News _ _ _ _ => N1
  have hmod : 0 ≤ (ns.getD b.toNat 0).fmod most ∧ (ns.getD b.toNat 0).fmod most < most := ⟨Int.fmod_nonneg_of_pos _ (by omega), Int.fmod_lt_of_pos _ (by omega)⟩
  k_dflt refine LCg.CompSrc.range (n := (2 + (ns.getD b.toNat 0).fmod most).toNat) rfl F1 N1 R1 (small_one (by omega) (by omega) (by omega) (by omega)) (by rw [rangeSize_nat]; omega) (by show _ ≤ 16777216; omega) ?_
  intro g
  k_dflt refine comp_rest (fun i ys => ∃ zs : List Int, IntsAre ys zs ∧ zs.length = i ∧ (∀ z ∈ zs, t - 1 ≤ z ∧ z ≤ 2 * t - 1)) ⟨[], .nil, rfl, by simp⟩ ?step trivial ?fin
  case fin =>
    rintro ys ⟨zs, z1, z2, z3⟩ D h tk F2 N2 off
    have NE := N2 _ (.head _)
    exact hQ _ _ _ _ _ _ (Fr.keep F2) NE.1 NE.2.2 z1 (by omega) (by omega) z3
  case step =>
    rintro i ys v I oI C oC D m₂ h tk4 E' hin ⟨zs, z1, z2, z3⟩ ⟨tv, rfl⟩ hoC hx F2 N2 off ne
    clear F1 N1 R1
    k_fold
    walk_at "my go"
    refine ⟨_, _, rfl, by assumption, by assumption, zs ++ [_], ints_snoc z1, by simp [z2], fun z hz => ?_⟩
    rcases List.mem_append.mp hz with hz | hz
    · exact z3 z hz
    · rw [List.mem_singleton.mp hz]
      have h1 := Int.fmod_nonneg_of_pos (ns.getD (b + 1 + (0 + (i : Int))).toNat 0) (b := t + 1) (by omega)
      have h2 := Int.fmod_lt_of_pos (ns.getD (b + 1 + (0 + (i : Int))).toNat 0) (b := t + 1) (by omega)
      omega

section
variable {prog : Program} {w : World} {A : Around} {E : Value → Shared → Prop} {s : Shared} {env : Env} {h₀ : Heap} {x : Str} {body : List Stmt} {Q : Flow → Shared → Prop} {σ : Type}
def LedEnd (Led : σ → List (Addr × Obj)) (ps : σ → List (Str × Value)) (x : Str) (stored : List Str) (m₀ : Str → Option Value) (P : σ → Prop) (h₀ : Heap) (L I : Addr) (own : List (Addr × Obj)) (s₁ s₂ : Shared) : Prop :=
  ∃ h' tk m' c, s₂ = { s₁ with heap := h', toks := tk } ∧ Fr h₀ L h' m' ∧ News h₀ L h' (own ++ Led c) ∧ (∀ p ∈ Led c, p.1 ≠ I) ∧ (∀ p ∈ ps c, m' p.1 = some p.2) ∧ (∀ z, z ≠ x → (∀ p ∈ ps c, z ≠ p.1) → stored.contains z = false → m' z = m₀ z) ∧ P c
def LedPost (Led : σ → List (Addr × Obj)) (ps : σ → List (Str × Value)) (x : Str) (stored : List Str) (m₀ : Str → Option Value) (P : σ → Prop) (h₀ : Heap) (L I : Addr) (own : List (Addr × Obj)) (s₁ : Shared) (Q : Flow → Shared → Prop) (f : Flow) (s₂ : Shared) : Prop :=
  match f with
  | .ret v => Q (.ret v) s₂
  | .brk => Q .next s₂
  | _ => LedEnd Led ps x stored m₀ P h₀ L I own s₁ s₂
/-- a loop over a list of the base, the ledger by a state -/
theorem list_led {l : Addr} {vs : List Value} {m₀ : Str → Option Value} (Led : σ → List (Addr × Obj)) (ps : σ → List (Str × Value)) (stored : List Str) (P : Nat → σ → Prop) (c₀ : σ)
    (hh : A.handled = none) (hl : h₀.IsList l vs.toArray) (F : Fr h₀ env.locals s.heap m₀) (N : News h₀ env.locals s.heap (Led c₀))
    (hk : ∀ p ∈ ps c₀, m₀ p.1 = some p.2) (hp : P 0 c₀)
    (turn : ∀ (i : Nat) (c : σ) v (u : Str → Option Value) h tk I own, vs[i]? = some v → P i c → (∀ p ∈ Led c, p.1 ≠ I) → (∀ p ∈ own, p.1 = I) → (∃ o, (I, o) ∈ own) →
      Fr h₀ env.locals h (fun y => if y = x then some v else kstB (fun z => if stored.contains z then u z else m₀ z) (ps c) y) → News h₀ env.locals h (own ++ Led c) →
      wpAny (model prog w) A (execs body env) (LedPost Led ps x stored m₀ (P (i + 1)) h₀ env.locals I own { s with heap := h, toks := tk } Q) E { s with heap := h, toks := tk })
    (done : ∀ (c : σ) (u : Str → Option Value) h tk, P vs.length c → Fr h₀ env.locals h (fun y => if y = x then u y else kstB (fun z => if stored.contains z then u z else m₀ z) (ps c) y) → News h₀ env.locals h (Led c) → Q .next { s with heap := h, toks := tk }) :
    wpAny (model prog w) A (pyIter (.ref l)) (fun it s₂ => LoopAtV prog w A h₀ env x body Q E it s₂) E s := by
  have hls : s.heap.IsList l vs.toArray := hl.at fun o e => F.keep l o e
  obtain ⟨ol, hol, _⟩ := id hl
  have hlt : l < h₀.objs.size := Heap.lt_size hol
  have hne : l ≠ s.heap.objs.size := Nat.ne_of_lt (Nat.lt_trans (Nat.lt_of_lt_of_le hlt F.above) F.ns.lt)
  refine wpAny_pyIter_list hls ?_
  have W := Walks.list (prog := prog) (w := w) hh s.heap.objs.size l hne vs.toArray
  have hlen : vs.toArray.size = vs.length := by simp
  rw [hlen] at W
  let J : Nat → (Str → Option Value) → List (Addr × Obj) → Prop := fun i m₁ news₁ => ∃ c : σ, news₁ = Led c ∧ (∀ p ∈ ps c, m₁ p.1 = some p.2) ∧ (∀ z, z ≠ x → (∀ p ∈ ps c, z ≠ p.1) → stored.contains z = false → m₁ z = m₀ z) ∧ P i c
  refine ⟨_, _, _, vs.length, _, _, m₀, Led c₀, J, rfl, W, ?_, ?_, ?_, ⟨⟨_, Heap.get?_push_size _ rfl, rfl, rfl⟩, hls.at fun o e => Heap.get?_push_of_some _ e⟩, F.push _, (fun p hp => ⟨Heap.get?_push_of_some _ (N p hp).1, (N p hp).2⟩), ⟨c₀, rfl, hk, fun _ _ _ _ => rfl, hp⟩, ?_, ?_⟩
  · intro hm
    rcases List.mem_cons.mp hm with e | hm
    · exact absurd F.ns.lt (e ▸ Nat.lt_irrefl _)
    · exact absurd (Nat.lt_of_lt_of_le hlt F.above) ((List.mem_singleton.mp hm) ▸ Nat.lt_irrefl _)
  · intro b hb
    rw [List.mem_singleton.mp hb]
    exact next_is_new F
  · intro p hp hI
    exact absurd (Heap.lt_size (N p hp).1) ((List.mem_singleton.mp hI) ▸ Nat.lt_irrefl _)
  · rintro i v m₁ news₁ s₁ own ⟨hh', tk', rfl⟩ hin hP ⟨c, rfl, h1, h2, hp'⟩ hoff hown hget hall hst F₁ N₁
    have hv : vs[i]? = some v := by simpa using hP
    have hI : ∀ p ∈ own, p.1 = s.heap.objs.size := fun p hp => by
      rcases List.mem_cons.mp (hown p hp) with e | e
      · exact e
      · exfalso
        have h3 := (N₁ p (List.mem_append_left _ hp)).2.2
        rw [List.mem_singleton.mp e, hol] at h3
        cases h3
    have hI' : ∃ o, (s.heap.objs.size, o) ∈ own := by
      obtain ⟨o, ho, _⟩ := hst.1
      exact ⟨o, hall _ (.head _) (next_is_new F) o ho⟩
    refine wpAny_mono (turn i c v m₁ hh' tk' s.heap.objs.size own hv hp' (fun p hp e => hoff p hp (by rw [e]; exact .head _)) hI hI' (kst_fr h1 h2 F₁) N₁) (fun f s₂ p => ?_) fun _ _ e => e
    have fin : LedEnd Led ps x stored m₀ (P (i + 1)) h₀ env.locals s.heap.objs.size own { s with heap := hh', toks := tk' } s₂ → LoopStepU h₀ env.locals [s.heap.objs.size] own (J (i + 1)) { s with heap := hh', toks := tk' } .next s₂ := by
      rintro ⟨h', tk, m', c', e, F', N', hne', hk', hr', hp''⟩
      exact ⟨rfl, h', tk, m', Led c', e, F', N', fun p hp hm => hne' p hp (List.mem_singleton.mp hm), c', rfl, hk', hr', hp''⟩
    cases f with
    | ret v => exact .ret p
    | brk => exact .brk p
    | next => exact .next (fin p)
    | cont => exact .cont (fin p)
  · rintro h' tk m' news' F' N' _ ⟨c, rfl, h1, h2, hp'⟩
    exact done c m' h' tk hp' (kst_frOut h1 h2 F') N'
end

theorem news_more {h₀ h h' : Heap} {L : Addr} {m : Str → Option Value} {news tl : List (Addr × Obj)} (F : Fr h₀ L h m) (N : News h₀ L h news) (k : Keeps h h') (htl : ∀ q ∈ tl, h'.get? q.1 = some q.2 ∧ h.get? q.1 = none) : News h₀ L h' (tl ++ news) := fun q hq => by
  rcases List.mem_append.mp hq with hq | hq
  · refine ⟨(htl q hq).1, fun e => ?_, kts_none F.keep (htl q hq).2⟩
    obtain ⟨o, _, _, ho, _⟩ := F.ns
    have := (htl q hq).2
    rw [e, ho] at this
    cases this
  · exact ⟨k _ _ (N q hq).1, (N q hq).2⟩
structure InSt where
  kvs : List Value
  nk : Nat
  cvs : List Value
  nc : Nat
  tl : List (Addr × Obj)
  pos : Int
  tk : Tok
theorem inner_ok (w : World) (loose : List Str) (mean : ExcName → Option Value) (mg mb : Str → Option Value) (gd : Option (List Code)) (base : Heap) (dp un : Nat) (outer : List Env) (s : Shared) (p z : Addr) (pvs zvs : List Value) (ps : List Int) (zs : List Nat) (a : Nat) (tk : Tok) (Q E : Value → Shared → Prop)
    (C : Cx w loose mean mg mb dp un gd outer base s.heap) (hroom : dp + 20 < recursionLimit) (hun : un + 40 < cLine)
    (hp : s.heap.IsList p pvs.toArray) (hi : IntsAre pvs ps) (hl : ps.length = 24) (hz : s.heap.IsList z zvs.toArray) (hzi : IntsAre zvs (zs.map fun n : Nat => (n : Int))) (h2 : 2 ≤ zs.length) (h4 : zs.length ≤ 64) (hsum : a + zs.sum + zs.length ≤ 24)
    (hQ : ∀ v (tl : List (Addr × Obj)) h' tk', Keeps s.heap h' → (∀ q ∈ tl, h'.get? q.1 = some q.2 ∧ s.heap.get? q.1 = none) → TreeP (fun a o => (a, o) ∈ tl) 1 ((keysOf ps a zs).take (zs.length - 1), leavesOf ps a zs) v → Q v { s with heap := h', toks := tk' }) :
    wpAny (model PP w) (ar dp un gd outer) (call (.ref 93) [.ref p, .int (a : Int) tk, .ref z]) Q E s := by
  obtain ⟨B, X, T⟩ := C
  walk_at "my enter"
  intro L h₁ F N
  k_fold
  w_on
  walk_at "my go"
  rename Fr _ _ _ _ => F1
  rename News s.heap L _ [(_, listOf #[] 0), (_, listOf #[] 0)] => N1
  rename @LT.lt Nat _ _ _ => ltKC
  rename_i Ka _ _ _ Ca _ _
  have hne : @Ne Nat Ka Ca := Nat.ne_of_lt ltKC
  k_dflt refine list_led (σ := InSt) (fun c => (Ca, listOf c.cvs.toArray c.nc) :: (Ka, listOf c.kvs.toArray c.nk) :: c.tl) (fun c => [(Str.ofString "at", .int c.pos c.tk)]) []
    (fun i c => c.pos = ((a + (zs.take i).sum + i : Nat) : Int) ∧ IntsAre c.kvs (keysOf ps a (zs.take i)) ∧ c.cvs.length = i ∧ (∀ (j : Nat) tj vj, (leavesOf ps a (zs.take i))[j]? = some tj → c.cvs[j]? = some vj → TreeP (fun a o => (a, o) ∈ c.tl) 0 tj vj) ∧ (∀ q ∈ c.tl, q.1 ≠ Ca ∧ q.1 ≠ Ka))
    ⟨[], 0, [], 0, [], (a : Int), _⟩
    rfl hz F1 N1 (by kst_all) ⟨by simp, .nil, rfl, fun j tj vj _ e => by simp at e, fun q hq => nomatch hq⟩ ?turn ?done
  case done =>
    rintro ⟨kvs, nk, cvs, nc, tl, pos, ptk⟩ u' h3 tk3 ⟨g1, g2, g3, g4, g5⟩ F2 N2
    dsimp only at g1 g2 g3 g4 g5 F2 N2
    clear F1 N1
    have hml : (zs.map fun n : Nat => (n : Int)).length = zs.length := List.length_map ..
    have hzl : zvs.length = zs.length := by rw [hzi.length, hml]
    rw [hzl, List.take_of_length_le (Nat.le_refl _)] at g1 g2 g4
    have hkl2 : (keysOf ps a zs).length ≤ 64 := by rw [keysOf_length]; exact h4
    walk_at "my go"
    rename News _ _ _ _ => NE
    rename IntsAre _ (List.take _ _) => hI
    rw [hml, show ((zs.length : Int) - 1).toNat = zs.length - 1 by omega] at hI
    exact hQ _ _ _ _ (Fr.keep (by assumption)) (fun q hq => ⟨(NE q hq).1, (NE q hq).2.2⟩)
      ⟨_, _, _, _, _, cvs, rfl, ⟨_, .head _, rfl, _, rfl⟩, ⟨_, .tail _ (.head _), rfl, _, rfl⟩, hI, ⟨_, .tail _ (.tail _ (.head _)), rfl, _, rfl⟩, by rw [g3, hzl]; exact (leavesOf_length ps zs a).symm,
        fun i ti vi e1 e2 => TreeP.mono (fun _ _ h => .tail _ (.tail _ (.tail _ (.tail _ h)))) (g4 i ti vi e1 e2)⟩
  case turn =>
    rintro i ⟨kvs, nk, cvs, nc, tl, pos, ptk⟩ v u' h3 tk3 I own hv ⟨g1, g2, g3, g4, g5⟩ gI gown gIn F2 N2
    dsimp only at g1 g2 g3 g4 g5 F2 N2 gI
    clear F1 N1
    k_fold
    have hlt : i < zs.length := by
      have := hzi.length
      have h5 := (List.getElem?_eq_some_iff.mp hv).1
      simp at this; omega
    obtain ⟨tv, rfl⟩ : ∃ tv, v = .int ((zs[i] : Nat) : Int) tv := by
      obtain ⟨t', hx⟩ := hzi.get i ((zs[i] : Nat) : Int) (by simp [hlt])
      rw [hx] at hv
      exact ⟨t', (Option.some.inj hv).symm⟩
    have hts : (zs.take (i + 1)).sum = (zs.take i).sum + zs[i] := by
      rw [List.take_add_one, List.getElem?_eq_getElem hlt, List.sum_append]; simp
    have hle : (zs.take i).sum + zs[i] ≤ zs.sum := by
      have h6 : (zs.take (i + 1)).sum ≤ zs.sum := by
        conv => rhs; rw [← List.take_append_drop (i + 1) zs]
        rw [List.sum_append]; omega
      rw [hts] at h6
      exact h6
    have N3 : News s.heap L h3 ((Ca, listOf cvs.toArray nc) :: (Ka, listOf kvs.toArray nk) :: (tl ++ own)) := fun q hq => by
      rcases List.mem_cons.mp hq with rfl | hq
      · exact N2 _ (List.mem_append_right _ (.head _))
      rcases List.mem_cons.mp hq with rfl | hq
      · exact N2 _ (List.mem_append_right _ (.tail _ (.head _)))
      rcases List.mem_append.mp hq with hq | hq
      · exact N2 _ (List.mem_append_right _ (.tail _ (.tail _ hq)))
      · exact N2 _ (List.mem_append_left _ hq)
    have hkvl : kvs.length = i := by rw [g2.length, keysOf_length, List.length_take]; omega
    have hi64 : i ≤ 64 := by omega
    have hIC : Ca ≠ I := gI _ (.head _)
    have hIK : Ka ≠ I := gI _ (.tail _ (.head _))
    have hItl : ∀ q ∈ tl, q.1 ≠ I := fun q hq => gI _ (.tail _ (.tail _ hq))
    clear N2
    subst g1
    walk_at "my go"
    rename Fr _ _ _ _ => F3
    k_dflt refine leaf_ok w loose mean mg mb gd base (dp + 1) (un + 3) _ _ p pvs ps _ _ _ _ _ _ (Cx.push B X T F3 rfl rfl) (by omega) (by omega) (hp.at fun o e => F3.keep p o e) hi hl (by omega) (by omega) (by omega) ?_
    intro v tl' h' tk' kp htl htree
    have N5 : News s.heap L h' ((Ca, listOf cvs.toArray nc) :: (Ka, listOf kvs.toArray nk) :: (tl' ++ (tl ++ own))) := fun q hq => by
      have NA := news_more F3 N3 kp htl
      rcases List.mem_cons.mp hq with rfl | hq
      · exact NA _ (List.mem_append_right _ (.head _))
      rcases List.mem_cons.mp hq with rfl | hq
      · exact NA _ (List.mem_append_right _ (.tail _ (.head _)))
      rcases List.mem_append.mp hq with hq | hq
      · exact NA _ (List.mem_append_left _ hq)
      · exact NA _ (List.mem_append_right _ (.tail _ (.tail _ hq)))
    have hnew : ∀ q ∈ tl', ∀ b o, (b, o) ∈ (Ca, listOf cvs.toArray nc) :: (Ka, listOf kvs.toArray nk) :: (tl ++ own) → q.1 ≠ b := fun q hq b o hb e => by
      have e1 := (htl q hq).2
      have e2 := (N3 _ hb).1
      rw [e] at e1
      exact absurd (e1.symm.trans e2) (by simp)
    have hoff : OwnOff (tl' ++ (tl ++ own)) [Ca, Ka] := fun q hq b hb => by
      rcases List.mem_append.mp hq with hq | hq
      · rcases List.mem_cons.mp hb with rfl | hb
        · exact hnew q hq _ _ (.head _)
        · rw [List.mem_singleton.mp hb]; exact hnew q hq _ _ (.tail _ (.head _))
      · rcases List.mem_append.mp hq with hq | hq
        · rcases List.mem_cons.mp hb with rfl | hb
          · exact (g5 q hq).1
          · rw [List.mem_singleton.mp hb]; exact (g5 q hq).2
        · rcases List.mem_cons.mp hb with rfl | hb
          · rw [gown q hq]; exact fun e => hIC e.symm
          · rw [List.mem_singleton.mp hb, gown q hq]; exact fun e => hIK e.symm
    have F4 := fr_keeps F3 kp
    clear F3 N3
    walk_at "my go"
    dsimp only [List.cons_append, List.nil_append]
    rename News _ _ _ _ => NE
    rename Fr _ _ _ _ => FE
    k_dflt refine' append_K FE NE ?k3 ?_ ?z
    case k3 =>
      refine' Upd.tail ?a ?b
      case a => k_ne
      case b =>
        refine' Upd.head ?a
        case a => exact OwnOff.ne (by assumption) (by k_memK)
    case z => size_fits
    intro h6 F6 N6
    clear FE NE
    walk_at "my go"
    rename News _ _ _ _ => NE
    simp only [List.push_toArray] at NE
    have hta : zs.take (i + 1) = zs.take i ++ [zs[i]] := by rw [List.take_add_one, List.getElem?_eq_getElem hlt]; rfl
    have NK := NE _ (.tail _ (.head _))
    have NC := NE _ (.head _)
    k_dflt refine' ⟨_, _, _, ⟨kvs ++ [?yxv], nk + 1, cvs ++ [v], nc + 1, tl' ++ tl, ?yps, ?ytk⟩, rfl, ?yF, ?yN, ?yne, ?yk, ?yr, ?yp1, ?yp2, ?yp3, ?yp4, ?yp5⟩
    case yF => assumption
    case yk => kst_all
    case yN =>
      intro q hq
      rcases List.mem_append.mp hq with hq | hq
      · exact NE _ (.tail _ (.tail _ (List.mem_append_right _ (List.mem_append_right _ hq))))
      rcases List.mem_cons.mp hq with rfl | hq
      · exact NC
      rcases List.mem_cons.mp hq with rfl | hq
      · exact NK
      rcases List.mem_append.mp hq with hq | hq
      · exact NE _ (.tail _ (.tail _ (List.mem_append_left _ hq)))
      · exact NE _ (.tail _ (.tail _ (List.mem_append_right _ (List.mem_append_left _ hq))))
    case yr => walk_at "my same"
    case yne =>
      intro q hq
      rcases List.mem_cons.mp hq with rfl | hq
      · exact hIC
      rcases List.mem_cons.mp hq with rfl | hq
      · exact hIK
      rcases List.mem_append.mp hq with hq | hq
      · obtain ⟨oI, hoI⟩ := gIn
        exact hnew q hq _ _ (.tail _ (.tail _ (List.mem_append_right _ hoI)))
      · exact hItl q hq
    case yp1 => dsimp only; rw [hts]; omega
    case yp2 =>
      dsimp only
      rw [hta, keysOf_append, List.length_take, Nat.min_eq_left (by omega)]
      have e1 : ((a + (zs.take i).sum + i : Nat) : Int) + (zs[i] : Nat) = ((a + (zs.take i).sum + i + zs[i] : Nat) : Int) := by omega
      rw [e1, Int.toNat_natCast]
      exact ints_snoc g2
    case yp3 => simp [g3]
    case yp4 =>
      dsimp only
      intro j tj vj e1 e2
      rw [hta, leavesOf_append, List.length_take, Nat.min_eq_left (by omega)] at e1
      have hll : (leavesOf ps a (zs.take i)).length = i := by rw [leavesOf_length, List.length_take]; omega
      by_cases hj : j < i
      · rw [List.getElem?_append_left (by omega)] at e1 e2
        exact TreeP.mono (fun _ _ h => List.mem_append_right _ h) (g4 j tj vj e1 e2)
      · have hj' : j = i := by
          have := (List.getElem?_eq_some_iff.mp e2).1
          simp at this; omega
        subst hj'
        rw [List.getElem?_append_right (by omega), hll, Nat.sub_self] at e1
        rw [List.getElem?_append_right (by omega), g3, Nat.sub_self] at e2
        simp [leavesOf] at e1 e2
        subst e1 e2
        simp only [Int.toNat_natCast] at htree
        exact TreeP.mono (fun _ _ h => List.mem_append_left _ h) htree
    case yp5 =>
      dsimp only
      intro q hq
      rcases List.mem_append.mp hq with hq | hq
      · exact ⟨hnew q hq _ _ (.head _), hnew q hq _ _ (.tail _ (.head _))⟩
      · exact g5 q hq

theorem nats_of {xs : List Int} (h : ∀ x ∈ xs, 0 ≤ x) : ∃ zs : List Nat, xs = zs.map (fun n : Nat => (n : Int)) := by
  refine ⟨xs.map Int.toNat, ?_⟩
  rw [List.map_map]
  conv => lhs; rw [← List.map_id xs]
  apply List.map_congr_left
  intro x hx
  have := h x hx
  simp; omega
theorem sum_nats : ∀ zs : List Nat, (zs.map (fun n : Nat => (n : Int))).sum = (zs.sum : Int)
  | [] => rfl
  | z :: zs => by simp [sum_nats zs]
theorem leavesOf_le (ps : List Int) : ∀ (zs : List Nat) (i : Nat), ∀ c ∈ leavesOf ps i zs, c.length ≤ ps.length
  | [], _, c, h => nomatch h
  | z :: zs, i, c, h => by
    rcases List.mem_cons.mp h with rfl | h
    · rw [List.length_take, List.length_drop]; omega
    · exact leavesOf_le ps zs _ c h
theorem ino_one (ks : List Int) (cs : List (List Int)) : ino 1 (ks, cs) = weave ks cs := by
  show weave ks (cs.map (ino 0)) = weave ks cs
  congr 1
  exact List.map_id cs
theorem wf_one {ks : List Int} {cs : List (List Int)} (h1 : ks.length ≤ 64) (h2 : cs.length = ks.length + 1) (h3 : ∀ c ∈ cs, c.length ≤ 64) : wf 1 (ks, cs) := ⟨h1, h2, h3⟩
theorem inner_is {ps : List Int} {zs : List Nat} {a : Nat} (hl : ps.length = 24) (h2 : 2 ≤ zs.length) (hs : a + zs.sum + zs.length ≤ 24) :
    wf 1 ((keysOf ps a zs).take (zs.length - 1), leavesOf ps a zs) ∧ ino 1 ((keysOf ps a zs).take (zs.length - 1), leavesOf ps a zs) = (ps.drop a).take (zs.sum + zs.length - 1) := by
  refine ⟨wf_one ?_ ?_ fun c hc => ?_, ?_⟩
  · rw [List.length_take, keysOf_length]; omega
  · rw [List.length_take, keysOf_length, leavesOf_length]; omega
  · have := leavesOf_le ps zs a c hc; omega
  · rw [ino_one]; exact weave_built ps zs a (fun e => by rw [e] at h2; simp at h2) (by omega)
theorem fit_one {zs : List Nat} {t most : Int} (ht : 2 ≤ t ∧ t ≤ 4) (hm : 2 ≤ most ∧ most ≤ 3) (hfit : t = 4 → most = 2) (hz4 : (zs.length : Int) ≤ most + 1) (hzb : ∀ z ∈ zs, (z : Int) ≤ 2 * t - 1) : zs.sum + zs.length ≤ 24 := by
  have h3 : t = 2 ∨ t = 3 ∨ t = 4 := by omega
  rcases h3 with rfl | rfl | rfl
  · have := sum_le_of (zs := zs) (b := 3) (fun z hz => by have := hzb z hz; omega)
    omega
  · have := sum_le_of (zs := zs) (b := 5) (fun z hz => by have := hzb z hz; omega)
    omega
  · have := sum_le_of (zs := zs) (b := 7) (fun z hz => by have := hzb z hz; omega)
    have := hfit rfl
    omega
/-- what the building gives back: a tuple of a lawful tree of height hN and its number of keys -/
def GrowOut (ps : List Int) (hN : Nat) (tl : List (Addr × Obj)) (tp : Addr) : Prop :=
  ∃ (bt : BT hN) (v : Value) (n : Nat) (tk : Tok), (tp, ({ cls := .type "tuple", data := .seq #[v, .int (n : Int) tk] } : Obj)) ∈ tl ∧ TreeP (fun a o => (a, o) ∈ tl) hN bt v ∧ wf hN bt ∧ ino hN bt = ps.take n ∧ n ≤ 23
theorem grow0_ok (w : World) (loose : List Str) (mean : ExcName → Option Value) (mg mb : Str → Option Value) (gd : Option (List Code)) (base : Heap) (dp un : Nat) (outer : List Env) (s : Shared) (l p : Addr) (svs pvs : List Value) (ns ps : List Int) (t most : Int) (tk1 tk2 tk3 : Tok) (Q E : Value → Shared → Prop)
    (C : Cx w loose mean mg mb dp un gd outer base s.heap) (hroom : dp + 20 < recursionLimit) (hun : un + 40 < cLine)
    (hS : s.heap.IsList l svs.toArray) (hsi : IntsAre svs ns) (hsl : ns.length ≤ 64) (hp : s.heap.IsList p pvs.toArray) (hi : IntsAre pvs ps) (hl : ps.length = 24) (ht : 2 ≤ t ∧ t ≤ 4)
    (hQ : ∀ tp (tl : List (Addr × Obj)) h' tk', Keeps s.heap h' → (∀ q ∈ tl, h'.get? q.1 = some q.2 ∧ s.heap.get? q.1 = none) → GrowOut ps 0 tl tp → Q (.ref tp) { s with heap := h', toks := tk' }) :
    wpAny (model PP w) (ar dp un gd outer) (call (.ref 100) [.ref l, .ref p, .int t tk1, .int 0 tk2, .int most tk3]) Q E s := by
  obtain ⟨B, X, T⟩ := C
  walk_at "my enter"
  intro L h₁ F N
  k_fold
  w_on
  walk_at "my go"
  rename Fr _ _ _ _ => F3
  rename News _ _ _ _ => N3
  have hm1 := Int.fmod_nonneg_of_pos (ns.getD (Int.toNat 4) 0) (b := 2 * t) (by omega)
  have hm2 := Int.fmod_lt_of_pos (ns.getD (Int.toNat 4) 0) (b := 2 * t) (by omega)
  k_dflt refine leaf_ok w loose mean mg mb gd base (dp + 1) (un + 3) _ _ p pvs ps _ _ _ _ _ _ (Cx.push B X T F3 rfl rfl) (by omega) (by omega) (hp.at fun o e => F3.keep p o e) hi hl (by omega) (by omega) (by omega) ?_
  intro v tl h' tk' kp htl htree
  have F4 := fr_keeps F3 kp
  have N4 := news_more F3 N3 kp htl
  clear F3 N3
  walk_at "my go"
  rename News _ _ _ _ => NE
  have e : (ns.getD (Int.toNat 4) 0).fmod (2 * t) = (((ns.getD (Int.toNat 4) 0).fmod (2 * t)).toNat : Int) := by omega
  rw [e] at NE
  exact hQ _ _ _ _ (Fr.keep (by assumption)) (fun q hq => ⟨(NE q hq).1, (NE q hq).2.2⟩)
    ⟨_, v, ((ns.getD (Int.toNat 4) 0).fmod (2 * t)).toNat, _, .head _, TreeP.mono (fun _ _ h => .tail _ (List.mem_append_left _ h)) htree, by show List.length _ ≤ 64; rw [List.length_take, List.length_drop]; omega, rfl, by omega⟩
theorem grow1_ok (w : World) (loose : List Str) (mean : ExcName → Option Value) (mg mb : Str → Option Value) (gd : Option (List Code)) (base : Heap) (dp un : Nat) (outer : List Env) (s : Shared) (l p : Addr) (svs pvs : List Value) (ns ps : List Int) (t most : Int) (tk1 tk2 tk3 : Tok) (Q E : Value → Shared → Prop)
    (C : Cx w loose mean mg mb dp un gd outer base s.heap) (hroom : dp + 30 < recursionLimit) (hun : un + 60 < cLine)
    (hS : s.heap.IsList l svs.toArray) (hsi : IntsAre svs ns) (hsl : ns.length ≤ 64) (hp : s.heap.IsList p pvs.toArray) (hi : IntsAre pvs ps) (hl : ps.length = 24) (ht : 2 ≤ t ∧ t ≤ 4) (hm : 2 ≤ most ∧ most ≤ 3) (hfit : (t = 4 → most = 2))
    (hQ : ∀ tp (tl : List (Addr × Obj)) h' tk', Keeps s.heap h' → (∀ q ∈ tl, h'.get? q.1 = some q.2 ∧ s.heap.get? q.1 = none) → GrowOut ps 1 tl tp → Q (.ref tp) { s with heap := h', toks := tk' }) :
    wpAny (model PP w) (ar dp un gd outer) (call (.ref 100) [.ref l, .ref p, .int t tk1, .int 1 tk2, .int most tk3]) Q E s := by
  obtain ⟨B, X, T⟩ := C
  walk_at "my enter"
  intro L h₁ F N
  k_fold
  w_on
  walk_at "my go"
  rename Fr _ _ _ _ => F3
  rename News _ _ _ _ => N3
  k_dflt refine sizes_ok w loose mean mg mb gd base (dp + 1) (un + 3) _ _ l svs ns t most 4 _ _ _ _ _ (Cx.push B X T F3 rfl rfl) (by omega) (by omega) (hS.at fun o e => F3.keep l o e) hsi hsl ht hm (by omega) ?_
  intro D nD zvs zsI h' tk' kp hD1 hD2 hzi0 hz2 hz4 hzb
  obtain ⟨zs, rfl⟩ := nats_of (fun x hx => by have := (hzb x hx).1; omega)
  have F4 := fr_keeps F3 kp
  have N4 : News s.heap L h' ([(D, listOf zvs.toArray nD)] ++ []) := news_more F3 N3 kp (fun q hq => by rw [List.mem_singleton.mp hq]; exact ⟨hD1, hD2⟩)
  clear F3 N3
  rw [List.length_map] at hz2 hz4
  have hml : (zs.map fun n : Nat => (n : Int)).length = zs.length := List.length_map ..
  have hml64 : (zs.map fun n : Nat => (n : Int)).length ≤ 64 := by rw [hml]; omega
  have hsn := sum_nats zs
  walk_at "my go"
  rename Fr _ _ _ _ => F5
  rename News _ _ _ _ => N5
  have hfit1 := fit_one ht hm hfit hz4 (fun z hz => (hzb _ (List.mem_map_of_mem hz)).2)
  have hmain := inner_is (a := 0) hl hz2 (by omega)
  k_dflt refine inner_ok w loose mean mg mb gd base (dp + 1) (un + 3) _ _ p D pvs zvs ps zs 0 _ _ _ (Cx.push B X T F5 rfl rfl) (by omega) (by omega) (hp.at fun o e => F5.keep p o e) hi hl ⟨_, (N5 _ (.head _)).1, rfl, _, rfl⟩ hzi0 hz2 (by omega) (by omega) ?_
  intro v tl h7 tk7 kp7 htl htree
  have F6 := fr_keeps F5 kp7
  have N6 := news_more F5 N5 kp7 htl
  clear F5 N5
  walk_at "my go"
  rename News _ _ _ _ => NE
  have e : (zs.map fun n : Nat => (n : Int)).sum + ((zs.map fun n : Nat => (n : Int)).length : Int) - 1 = ((zs.sum + zs.length - 1 : Nat) : Int) := by omega
  rw [e] at NE
  exact hQ _ _ _ _ (Fr.keep (by assumption)) (fun q hq => ⟨(NE q hq).1, (NE q hq).2.2⟩)
    ⟨_, v, zs.sum + zs.length - 1, _, .head _, TreeP.mono (fun _ _ h => .tail _ (List.mem_append_left _ h)) htree, hmain.1, hmain.2, by omega⟩

theorem fit_two {zs : List Nat} (hz4 : (zs.length : Int) ≤ 2 + 1) (hzb : ∀ z ∈ zs, (z : Int) ≤ 2 * 2 - 1) : zs.sum + zs.length ≤ 12 := by
  have := sum_le_of (zs := zs) (b := 3) (fun z hz => by have := hzb z hz; omega)
  omega
theorem two_is {ps : List Int} {a n m : Nat} (hn : n < ps.length) (ha : a = n + 1) : weave [ps.getD n 0] [ps.take n, (ps.drop a).take m] = ps.take (n + 1 + m) := by
  subst ha; rw [getD_at hn, weave_two hn]
theorem grow2_ok (w : World) (loose : List Str) (mean : ExcName → Option Value) (mg mb : Str → Option Value) (gd : Option (List Code)) (base : Heap) (dp un : Nat) (outer : List Env) (s : Shared) (l p : Addr) (svs pvs : List Value) (ns ps : List Int) (tk1 tk2 tk3 : Tok) (Q E : Value → Shared → Prop)
    (C : Cx w loose mean mg mb dp un gd outer base s.heap) (hroom : dp + 30 < recursionLimit) (hun : un + 60 < cLine)
    (hS : s.heap.IsList l svs.toArray) (hsi : IntsAre svs ns) (hsl : ns.length ≤ 64) (hp : s.heap.IsList p pvs.toArray) (hi : IntsAre pvs ps) (hl : ps.length = 24)
    (hQ : ∀ tp (tl : List (Addr × Obj)) h' tk', Keeps s.heap h' → (∀ q ∈ tl, h'.get? q.1 = some q.2 ∧ s.heap.get? q.1 = none) → GrowOut ps 2 tl tp → Q (.ref tp) { s with heap := h', toks := tk' }) :
    wpAny (model PP w) (ar dp un gd outer) (call (.ref 100) [.ref l, .ref p, .int 2 tk1, .int 2 tk2, .int 2 tk3]) Q E s := by
  obtain ⟨B, X, T⟩ := C
  walk_at "my enter"
  intro L h₁ F N
  k_fold
  w_on
  walk_at "my go"
  rename Fr _ _ _ _ => F3
  rename News _ _ _ _ => N3
  k_dflt refine sizes_ok w loose mean mg mb gd base (dp + 1) (un + 3) _ _ l svs ns 2 2 4 _ _ _ _ _ (Cx.push B X T F3 rfl rfl) (by omega) (by omega) (hS.at fun o e => F3.keep l o e) hsi hsl (by omega) (by omega) (by omega) ?_
  intro D nD zvs zsI h' tk' kp hD1 hD2 hzi0 hz2 hz4 hzb
  obtain ⟨zs, rfl⟩ := nats_of (fun x hx => by have := (hzb x hx).1; omega)
  have F4 := fr_keeps F3 kp
  have N4 : News s.heap L h' ([(D, listOf zvs.toArray nD)] ++ []) := news_more F3 N3 kp (fun q hq => by rw [List.mem_singleton.mp hq]; exact ⟨hD1, hD2⟩)
  clear F3 N3
  rw [List.length_map] at hz2 hz4
  have hml : (zs.map fun n : Nat => (n : Int)).length = zs.length := List.length_map ..
  have hml64 : (zs.map fun n : Nat => (n : Int)).length ≤ 64 := by rw [hml]; omega
  have hsn := sum_nats zs
  walk_at "my go"
  rename Fr _ _ _ _ => F5
  rename News _ _ _ _ => N5
  have hfit1 := fit_two hz4 (fun z hz => (hzb _ (List.mem_map_of_mem hz)).2)
  have hmain := inner_is (a := 0) hl hz2 (by omega)
  k_dflt refine inner_ok w loose mean mg mb gd base (dp + 1) (un + 3) _ _ p D pvs zvs ps zs 0 _ _ _ (Cx.push B X T F5 rfl rfl) (by omega) (by omega) (hp.at fun o e => F5.keep p o e) hi hl ⟨_, (N5 _ (.head _)).1, rfl, _, rfl⟩ hzi0 hz2 (by omega) (by omega) ?_
  intro v tl h7 tk7 kp7 htl htree
  have F6 := fr_keeps F5 kp7
  have N6 := news_more F5 N5 kp7 htl
  clear F5 N5
  walk_at "my go"
  rename Fr _ _ _ _ => F8
  rename News _ _ _ _ => N8
  k_dflt refine sizes_ok w loose mean mg mb gd base (dp + 1) (un + 3) _ _ l svs ns 2 2 8 _ _ _ _ _ (Cx.push B X T F8 rfl rfl) (by omega) (by omega) (hS.at fun o e => F8.keep l o e) hsi hsl (by omega) (by omega) (by omega) ?_
  intro D2 nD2 yvs ysI h9 tk9 kp9 hE1 hE2 hyi0 hy2 hy4 hyb
  obtain ⟨ys, rfl⟩ := nats_of (fun x hx => by have := (hyb x hx).1; omega)
  have F9 := fr_keeps F8 kp9
  have N9 := news_more (tl := [(D2, listOf yvs.toArray nD2)]) F8 N8 kp9 (fun q hq => by rw [List.mem_singleton.mp hq]; exact ⟨hE1, hE2⟩)
  clear F8 N8
  rw [List.length_map] at hy2 hy4
  have hmly : (ys.map fun n : Nat => (n : Int)).length = ys.length := List.length_map ..
  have hmly64 : (ys.map fun n : Nat => (n : Int)).length ≤ 64 := by rw [hmly]; omega
  have hsny := sum_nats ys
  walk_at "my go"
  rename Fr _ _ _ _ => F10
  rename News _ _ _ _ => N10
  have hfit2 := fit_two hy4 (fun z hz => (hyb _ (List.mem_map_of_mem hz)).2)
  have hmain2 := inner_is (a := zs.sum + zs.length) hl hy2 (by omega)
  have e1 : (zs.map fun n : Nat => (n : Int)).sum + ((zs.map fun n : Nat => (n : Int)).length : Int) - 1 + 1 = ((zs.sum + zs.length : Nat) : Int) := by omega
  have e0 : (zs.map fun n : Nat => (n : Int)).sum + ((zs.map fun n : Nat => (n : Int)).length : Int) - 1 = ((zs.sum + zs.length - 1 : Nat) : Int) := by omega
  rw [e1]
  k_dflt refine inner_ok w loose mean mg mb gd base (dp + 1) (un + 3) _ _ p D2 pvs yvs ps ys (zs.sum + zs.length) _ _ _ (Cx.push B X T F10 rfl rfl) (by omega) (by omega) (hp.at fun o e => F10.keep p o e) hi hl ⟨_, (N10 _ (.head _)).1, rfl, _, rfl⟩ hyi0 hy2 (by omega) (by omega) ?_
  intro v2 tl2 h11 tk11 kp11 htl2 htree2
  have F11 := fr_keeps F10 kp11
  have N11 : News s.heap L h11 ((D2, listOf yvs.toArray nD2) :: (tl2 ++ tl)) := fun q hq => by
    have NA := news_more F10 N10 kp11 htl2
    rcases List.mem_cons.mp hq with rfl | hq
    · exact NA _ (List.mem_append_right _ (.head _))
    rcases List.mem_append.mp hq with hq | hq
    · exact NA _ (List.mem_append_left _ hq)
    · exact NA _ (List.mem_append_right _ (List.mem_append_right _ (List.mem_append_left _ hq)))
  clear F10 N10
  walk_at "my go"
  rename News _ _ _ _ => NE
  rw [e0, show (((zs.sum + zs.length - 1 : Nat) : Int)).toNat = zs.sum + zs.length - 1 by omega] at NE
  have e2 : ((zs.sum + zs.length - 1 : Nat) : Int) + (ys.map fun n : Nat => (n : Int)).sum + ((ys.map fun n : Nat => (n : Int)).length : Int) = ((zs.sum + zs.length - 1 + ys.sum + ys.length : Nat) : Int) := by omega
  rw [e2] at NE
  have hnn : zs.sum + zs.length - 1 < ps.length := by omega
  exact hQ _ _ _ _ (Fr.keep (by assumption)) (fun q hq => ⟨(NE q hq).1, (NE q hq).2.2⟩)
    ⟨([ps.getD (zs.sum + zs.length - 1) 0], [((keysOf ps 0 zs).take (zs.length - 1), leavesOf ps 0 zs), ((keysOf ps (zs.sum + zs.length) ys).take (ys.length - 1), leavesOf ps (zs.sum + zs.length) ys)]), _, zs.sum + zs.length - 1 + ys.sum + ys.length, _, .head _,
      ⟨_, _, _, _, _, [v, v2], rfl, ⟨_, .tail _ (.head _), rfl, _, rfl⟩, ⟨_, .tail _ (.tail _ (.tail _ (.tail _ (.head _)))), rfl, _, rfl⟩, .cons _ _ .nil, ⟨_, .tail _ (.tail _ (.head _)), rfl, _, rfl⟩, rfl, by
        intro i ti vi e3 e4
        have up : ∀ q : Addr × Obj, q ∈ tl2 ++ tl → ∀ a b c d e f, q ∈ a :: b :: c :: d :: e :: f :: (tl2 ++ tl) := fun q h a b c d e f => .tail _ (.tail _ (.tail _ (.tail _ (.tail _ (.tail _ h)))))
        rcases i with _ | _ | i
        · cases e3; cases e4
          exact TreeP.mono (fun _ _ h => up _ (List.mem_append_right _ h) _ _ _ _ _ _) htree
        · cases e3; cases e4
          exact TreeP.mono (fun _ _ h => up _ (List.mem_append_left _ h) _ _ _ _ _ _) htree2
        · simp at e4⟩,
      ⟨by simp, rfl, by
        intro c hc
        rcases List.mem_cons.mp hc with rfl | hc
        · exact hmain.1
        · rw [List.mem_singleton.mp hc]; exact hmain2.1⟩,
      by
        show weave [ps.getD (zs.sum + zs.length - 1) 0] [ino 1 _, ino 1 _] = _
        rw [hmain.2, hmain2.2, List.drop_zero, two_is hnn (by omega)]
        congr 1
        omega,
      by omega⟩

theorem fr_keepsT {h₀ h h' : Heap} {L : Addr} {m : Str → Option Value} (F : Fr h₀ L h m) (k : KeepsT [L] h h') : Fr h₀ L h' m := by
  obtain ⟨g', T, kp⟩ := k
  obtain ⟨o, es, ep, hL, hd, r⟩ := F.ns
  obtain ⟨sl, hs⟩ := T.up hL
  refine ⟨⟨_, es, ep, kp _ _ hs, hd, r⟩, fun b o e => kp _ _ (T.other b o (F.keep b o e) fun hm => ?_), F.above⟩
  rw [List.mem_singleton.mp hm, kts_self F] at e
  cases e
theorem news_keepsT {h₀ h h' : Heap} {L : Addr} {l : List (Addr × Obj)} (N : News h₀ L h l) (k : KeepsT [L] h h') : News h₀ L h' l := by
  obtain ⟨g', T, kp⟩ := k
  exact fun p hp => ⟨kp _ _ (T.other _ _ (N p hp).1 fun hm => (N p hp).2.1 (List.mem_singleton.mp hm)), (N p hp).2⟩
theorem dicts_of {h₀ h : Heap} {L : Addr} {m : Str → Option Value} (F : Fr h₀ L h m) : KtsDicts [L] h := fun b hb => by
  obtain ⟨o, es, ep, hL, hd, _⟩ := F.ns
  rw [List.mem_singleton.mp hb]
  exact ⟨o, es, ep, hL, hd⟩
theorem len_of {xs : List Int} (h : ¬ (((63 : Nat) : Int) < ((xs.length : Nat) : Int))) : xs.length ≤ 64 := by omega
/-- the shapes of the table -/
def ShapeOk (t h most : Int) : Prop := (h = 0 ∧ 2 ≤ t ∧ t ≤ 4) ∨ (h = 1 ∧ (2 ≤ t ∧ t ≤ 4) ∧ (2 ≤ most ∧ most ≤ 3) ∧ (t = 4 → most = 2)) ∨ (t = 2 ∧ h = 2 ∧ most = 2)
def S1Out (base : Heap) (L : Addr) (m₀ : Str → Option Value) (news : List (Addr × Obj)) (s : Shared) (f : Flow) (s' : Shared) : Prop :=
  f = .next ∧ ∃ t h most a b c h' tk', s' = { s with heap := h', toks := tk' } ∧
    Fr base L h' (fun y => if y = Str.ofString "most" then some (.int most c) else if y = Str.ofString "h" then some (.int h b) else if y = Str.ofString "t" then some (.int t a) else m₀ y) ∧ News base L h' news ∧ ShapeOk t h most
theorem cut1 {M : Model} {A : Around} {x : Sem Flow} {Q : Flow → Shared → Prop} {E : Value → Shared → Prop} {s : Shared} {base : Heap} {L : Addr} {m₀ : Str → Option Value} {news : List (Addr × Obj)} (F : Fr base L s.heap m₀) (N : News base L s.heap news)
    (h1 : wpAny M A x (S1Out base L m₀ news s) E s) (h2 : ∀ f s', S1Out base L m₀ news s f s' → Q f s') : wpAny M A x Q E s := wpAny_mono h1 h2 fun _ _ e => e
def S11Out (base : Heap) (L : Addr) (m₀ : Str → Option Value) (news : List (Addr × Obj)) (lo : Int) (s : Shared) (f : Flow) (s' : Shared) : Prop :=
  f = .next ∧ ∃ d a h' tk', s' = { s with heap := h', toks := tk' } ∧ Fr base L h' (fun y => if y = Str.ofString "depth" then some (.int d a) else m₀ y) ∧ News base L h' news ∧ lo < d
theorem cut11 {M : Model} {A : Around} {x : Sem Flow} {Q : Flow → Shared → Prop} {E : Value → Shared → Prop} {s : Shared} {base : Heap} {L : Addr} {m₀ : Str → Option Value} {news : List (Addr × Obj)} (lo : Int) (F : Fr base L s.heap m₀) (N : News base L s.heap news)
    (h1 : wpAny M A x (S11Out base L m₀ news lo s) E s) (h2 : ∀ f s', S11Out base L m₀ news lo s f s' → Q f s') : wpAny M A x Q E s := wpAny_mono h1 h2 fun _ _ e => e
theorem menu_gt {h : Nat} (h1 : h ≤ 60) (x : Int) : (h : Int) < [(h : Int) + 1, (h : Int) + 2, 64].getD (x.fmod 3).toNat 0 := by
  have a := Int.fmod_nonneg_of_pos x (b := 3) (by omega)
  have b := Int.fmod_lt_of_pos x (b := 3) (by omega)
  have c : (x.fmod 3).toNat = 0 ∨ (x.fmod 3).toNat = 1 ∨ (x.fmod 3).toNat = 2 := by omega
  rcases c with c | c | c <;> rw [c] <;> simp [List.getD] <;> omega
theorem grow_ok (w : World) (loose : List Str) (mean : ExcName → Option Value) (mg mb : Str → Option Value) (gd : Option (List Code)) (base : Heap) (dp un : Nat) (outer : List Env) (s : Shared) (l p : Addr) (svs pvs : List Value) (ns ps : List Int) (t h most : Int) (tk1 tk2 tk3 : Tok) (Q E : Value → Shared → Prop)
    (C : Cx w loose mean mg mb dp un gd outer base s.heap) (hroom : dp + 30 < recursionLimit) (hun : un + 60 < cLine)
    (hS : s.heap.IsList l svs.toArray) (hsi : IntsAre svs ns) (hsl : ns.length ≤ 64) (hp : s.heap.IsList p pvs.toArray) (hi : IntsAre pvs ps) (hl : ps.length = 24) (hsh : ShapeOk t h most)
    (hQ : ∀ (hN : Nat) tp (tl : List (Addr × Obj)) h' tk', Keeps s.heap h' → (∀ q ∈ tl, h'.get? q.1 = some q.2 ∧ s.heap.get? q.1 = none) → GrowOut ps hN tl tp → h = (hN : Int) → hN ≤ 60 → Q (.ref tp) { s with heap := h', toks := tk' }) :
    wpAny (model PP w) (ar dp un gd outer) (call (.ref 100) [.ref l, .ref p, .int t tk1, .int h tk2, .int most tk3]) Q E s := by
  rcases hsh with ⟨rfl, h1, h2⟩ | ⟨rfl, h1, h2, h3⟩ | ⟨rfl, rfl, rfl⟩
  · exact grow0_ok w loose mean mg mb gd base dp un outer s l p svs pvs ns ps t most tk1 tk2 tk3 Q E C (by omega) (by omega) hS hsi hsl hp hi hl ⟨h1, h2⟩ fun tp tl h' tk' a b c => hQ 0 tp tl h' tk' a b c rfl (by omega)
  · exact grow1_ok w loose mean mg mb gd base dp un outer s l p svs pvs ns ps t most tk1 tk2 tk3 Q E C (by omega) (by omega) hS hsi hsl hp hi hl h1 h2 h3 fun tp tl h' tk' a b c => hQ 1 tp tl h' tk' a b c rfl (by omega)
  · exact grow2_ok w loose mean mg mb gd base dp un outer s l p svs pvs ns ps tk1 tk2 tk3 Q E C (by omega) (by omega) hS hsi hsl hp hi hl fun tp tl h' tk' a b c => hQ 2 tp tl h' tk' a b c rfl (by omega)
theorem new_ne {h₀ h : Heap} {L a b : Addr} {o : Obj} {news : List (Addr × Obj)} (N : News h₀ L h news) (hm : (b, o) ∈ news) (hn : h.get? a = none) : @Ne Nat a b := fun e => by
  have := (N _ hm).1
  rw [← e, hn] at this
  cases this
theorem grown_news {h₀ h h' : Heap} {L : Addr} {m : Str → Option Value} {D Lc tp : Addr} {lo oc o : Obj} {tl : List (Addr × Obj)} (F : Fr h₀ L h m) (N : News h₀ L h ([(D, lo)] ++ [(Lc, oc)])) (k : Keeps h h') (htl : ∀ q ∈ tl, h'.get? q.1 = some q.2 ∧ h.get? q.1 = none) (htp : (tp, o) ∈ tl) :
    News h₀ L h' ((tp, o) :: (Lc, oc) :: (D, lo) :: tl) ∧ OwnOff tl [Lc] := by
  have NA := news_more F N k htl
  refine ⟨fun q hq => ?_, fun q hq b hb e => ?_⟩
  · rcases List.mem_cons.mp hq with rfl | hq
    · exact NA _ (List.mem_append_left _ htp)
    rcases List.mem_cons.mp hq with rfl | hq
    · exact NA _ (List.mem_append_right _ (.tail _ (.head _)))
    rcases List.mem_cons.mp hq with rfl | hq
    · exact NA _ (List.mem_append_right _ (.head _))
    · exact NA _ (List.mem_append_left _ hq)
  · rw [List.mem_singleton.mp hb] at e
    have e1 := (htl q hq).2
    rw [e, (N _ (.tail _ (.head _))).1] at e1
    cases e1
theorem tree_at {h₀ h : Heap} {L : Addr} {news tl : List (Addr × Obj)} {hN : Nat} {bt : BT hN} {v : Value} (N : News h₀ L h news) (sub : ∀ q ∈ tl, q ∈ news) (ht : TreeP (fun a o => (a, o) ∈ tl) hN bt v) : TreeAt h hN bt v := TreeP.mono (fun _ _ hm => (N _ (sub _ hm)).1) ht
theorem room_of {k : Nat} (h : k ≤ 60) : 1 + claimMargin + 1 + k + 15 < recursionLimit := by
  show 1 + 300 + 1 + k + 15 < 1000
  omega
theorem unit_of {k : Nat} (h : k ≤ 60) : 4 + 3 + 3 * k + 30 < cLine := by
  show 4 + 3 + 3 * k + 30 < 9900
  omega
section
variable {prog : Program} {w : World} {A : Around} {E : Value → Shared → Prop} {s : Shared} {env : Env} {h₀ : Heap} {x : Str} {body : List Stmt} {Q : Flow → Shared → Prop} {σ : Type}
/-- a loop over a tuple of the ledger; what holds speaks of names alone -/
theorem tup_st {l : Addr} {vs : List Value} {k : Nat} {m₀ : Str → Option Value} {news : List (Addr × Obj)} (ps : σ → List (Str × Value)) (stored : List Str) (P : Nat → σ → Prop) (c₀ : σ)
    (hh : A.handled = none) (hm : (l, ({ cls := .type "tuple", data := .seq vs.toArray k } : Obj)) ∈ news) (F : Fr h₀ env.locals s.heap m₀) (N : News h₀ env.locals s.heap news)
    (hk : ∀ p ∈ ps c₀, m₀ p.1 = some p.2) (hp : P 0 c₀)
    (turn : ∀ (i : Nat) (c : σ) v (u : Str → Option Value) h tk own, vs[i]? = some v → P i c → Fr h₀ env.locals h (fun y => if y = x then some v else kstB (fun z => if stored.contains z then u z else m₀ z) (ps c) y) → News h₀ env.locals h (own ++ news) →
      wpAny (model prog w) A (execs body env) (InvPost h₀ env.locals (StJ ps x stored m₀ (P (i + 1))) (own ++ news) { s with heap := h, toks := tk } Q) E { s with heap := h, toks := tk })
    (done : ∀ (c : σ) (u : Str → Option Value) h tk, P vs.length c → Fr h₀ env.locals h (fun y => if y = x then u y else kstB (fun z => if stored.contains z then u z else m₀ z) (ps c) y) → News h₀ env.locals h news → Q .next { s with heap := h, toks := tk }) :
    wpAny (model prog w) A (pyIter (.ref l)) (fun it s₂ => LoopAtV prog w A h₀ env x body Q E it s₂) E s := by
  have hls : s.heap.IsTuple l vs.toArray := ⟨_, (N _ hm).1, rfl, _, rfl⟩
  have hlt : l < s.heap.objs.size := Heap.lt_size (N _ hm).1
  refine wpAny_pyIter_tuple hls ?_
  have W := Walks.tuple (prog := prog) (w := w) hh s.heap.objs.size l (Nat.ne_of_lt hlt) vs.toArray
  have hlen : vs.toArray.size = vs.length := by simp
  rw [hlen] at W
  refine ⟨_, _, _, vs.length, _, _, m₀, news, fun i m₁ news₁ => news₁ = news ∧ StJ ps x stored m₀ (P i) m₁, rfl, W, ?_, ?_, ?_, ⟨⟨_, Heap.get?_push_size _ rfl, rfl, rfl⟩, hls.at fun o e => Heap.get?_push_of_some _ e⟩, F.push _, (fun p hp => ⟨Heap.get?_push_of_some _ (N p hp).1, (N p hp).2⟩), ⟨rfl, c₀, hk, fun _ _ _ _ => rfl, hp⟩, ?_, ?_⟩
  · intro hm'
    rcases List.mem_cons.mp hm' with e | hm'
    · exact absurd F.ns.lt (e ▸ Nat.lt_irrefl _)
    · exact (N _ hm).2.1 (List.mem_singleton.mp hm').symm
  · intro b hb
    rw [List.mem_singleton.mp hb]
    exact next_is_new F
  · intro p hp hI
    exact absurd (Heap.lt_size (N p hp).1) ((List.mem_singleton.mp hI) ▸ Nat.lt_irrefl _)
  · rintro i v m₁ news₁ s₁ own ⟨hh', tk', rfl⟩ hin hP ⟨rfl, c, h1, h2, hp'⟩ hoff _ _ _ _ F₁ N₁
    have hv : vs[i]? = some v := by simpa using hP
    refine wpAny_mono (turn i c v m₁ hh' tk' own hv hp' (kst_fr h1 h2 F₁) N₁) (fun f s₂ p => ?_) fun _ _ e => e
    have fin : InvEnd h₀ env.locals (StJ ps x stored m₀ (P (i + 1))) (own ++ news₁) { s with heap := hh', toks := tk' } s₂ → LoopStepU h₀ env.locals [s.heap.objs.size] own (fun m₂ news₂ => news₂ = news₁ ∧ StJ ps x stored m₀ (P (i + 1)) m₂) { s with heap := hh', toks := tk' } .next s₂ := by
      rintro ⟨h', tk, m', news', e, F', N', hn, hm⟩
      exact ⟨rfl, h', tk, m', news₁, e, F', fun p hp => N' p (hn p hp), hoff, rfl, hm⟩
    cases f with
    | ret v => exact .ret p
    | brk => exact .brk p
    | next => exact .next (fin p)
    | cont => exact .cont (fin p)
  · rintro h' tk m' news' F' N' _ ⟨rfl, c, h1, h2, hp'⟩
    exact done c m' h' tk hp' (kst_frOut h1 h2 F') N'
end
section
open LCg LCt
variable {prog : Program} {w : World} {A : Around} {s : Shared} {h₀ : Heap} {L : Addr} {m : Str → Option Value} {env : Env}
theorem comp_restT {ct elt : Expr} {x : Str} {scope : Scope} {cl : List (Str × Addr)} {S : List (Addr × Obj) → Prop} {P : Nat → Value → Prop} {Fin : List Value → List (Addr × Obj) → Prop} {n : Nat} {news : List (Addr × Obj)} (R : Nat → List Value → Prop) (h0 : R 0 [])
    (step : ∀ i ys v I oI C oC D m₂ h tk (E' : Value → Shared → Prop), i < n → R i ys → P i v → NsObj oC m₂ → m₂ x = some v → Fr h₀ L h m → News h₀ L h ((I, oI) :: (C, oC) :: (D, lst ys) :: news) → Off3 I C D news → ((@Ne Nat I C) ∧ (@Ne Nat I D) ∧ (@Ne Nat C D)) →
      wpAny (model prog w) A (isTrue ct (compEnvC scope cl C env) (eval ct (compEnvC scope cl C env))) (fun ok s' => if ok = true then
        wpAny (model prog w) A (eval elt (compEnvC scope cl C env)) (CompOk h₀ L m { s with heap := h, toks := tk } ((I, oI) :: (C, oC) :: (D, lst ys) :: news) (fun y => R (i + 1) (ys ++ [y]))) E' s'
        else CompOk h₀ L m { s with heap := h, toks := tk } ((I, oI) :: (C, oC) :: (D, lst ys) :: news) (fun _ => R (i + 1) ys) Value.none s') E' { s with heap := h, toks := tk })
    (hS : S news) (fin : ∀ ys, R n ys → Fin ys news) : CompRestT prog w A h₀ L m env ct elt x scope cl s S P Fin n 0 [] news := by
  have main : ∀ k i ys, i + k = n → R i ys → CompRestT prog w A h₀ L m env ct elt x scope cl s S P Fin k i ys news := by
    intro k
    induction k with
    | zero => intro i ys e r; exact CompRestT.zero (fin ys (by rw [show i = n by omega] at r; exact r))
    | succ k ih =>
      intro i ys e r
      refine CompRestT.succ ?_
      intro v I oI C oC D m₂ h tk E' hP hoC hx F N off ne
      refine wpAny_mono (step i ys v I oI C oC D m₂ h tk E' (by omega) r hP hoC hx F N off ne) (fun ok s₁ h₁ => ?_) fun _ _ e => e
      cases ok with
      | true =>
        simp only [if_true] at h₁ ⊢
        refine wpAny_mono h₁ (fun y s₂ h₂ => ?_) fun _ _ e => e
        obtain ⟨h', tk', rfl, F', N', r'⟩ := h₂
        exact ⟨h', tk', news, rfl, F', N', off, hS, ih (i + 1) (ys ++ [y]) (by omega) r'⟩
      | false =>
        simp only [Bool.false_eq_true, if_false] at h₁ ⊢
        obtain ⟨h', tk', rfl, F', N', r'⟩ := h₁
        exact ⟨h', tk', news, rfl, F', N', off, hS, ih (i + 1) ys (by omega) r'⟩
  exact main n 0 [] (by omega) h0
end
theorem ints_at {vs : List Value} {ns : List Int} (h : IntsAre vs ns) {i : Nat} {v : Value} (hv : vs.toArray[i]? = some v) : ∃ x t, v = .int x t ∧ ns[i]? = some x := by
  have hv' : vs[i]? = some v := by simpa using hv
  have hl := (List.getElem?_eq_some_iff.mp hv').1
  have hl' : i < ns.length := by rw [← h.length]; exact hl
  obtain ⟨t, ht⟩ := h.get i ns[i] (by simp [hl'])
  rw [ht] at hv'
  exact ⟨ns[i], t, (Option.some.inj hv').symm, by simp [hl']⟩
theorem take_snoc {xs : List Int} {i : Nat} {x : Int} (h : xs[i]? = some x) : xs.take (i + 1) = xs.take i ++ [x] := by
  rw [List.take_add_one, h]; rfl
theorem filter_in {xs : List Int} {i : Nat} {x far : Int} {ys : List Value} {t : Tok} (h : xs[i]? = some x) (r : IntsAre ys ((xs.take i).filter fun x => decide (x < far))) (c : x < far) : IntsAre (ys ++ [.int x t]) ((xs.take (i + 1)).filter fun x => decide (x < far)) := by
  rw [take_snoc h, List.filter_append]
  simp only [List.filter_cons, List.filter_nil, c, decide_true, if_true]
  exact ints_snoc r
theorem filter_out {xs : List Int} {i : Nat} {x far : Int} {ys : List Value} (h : xs[i]? = some x) (r : IntsAre ys ((xs.take i).filter fun x => decide (x < far))) (c : ¬ x < far) : IntsAre ys ((xs.take (i + 1)).filter fun x => decide (x < far)) := by
  rw [take_snoc h, List.filter_append]
  simp only [List.filter_cons, List.filter_nil, c, decide_false, Bool.false_eq_true, if_false, List.append_nil]
  exact r
theorem law_holds : PySem.Challenge.rw_pd_canopy_2_05.Holds := by
  refine Mine.hd ?_
  w_on
  w_strict (
    k_go0
    k_fold
    rename List Int => ns
    rename List Value => svs
    rename Fr _ _ _ _ => F
    rename News _ _ _ _ => N
    rename Frag.In _ _ => X
    rename Top _ _ _ _ _ _ => T
    rename Below _ _ _ _ => B
    rename IntsAre _ _ => hI
    rename Heap.IsList _ _ _ => hS
    rename ¬ (((63 : Nat) : Int) < _) => h63
    have B' : Below (ar (1 + claimMargin) 4 (some []) []) (Top.heap T) [] (Top.heap T) := B
    have hlen := len_of h63
    clear B
    refine wpAny_execs_cons ?_
    refine cut1 F N ?_ ?_
    · walk_at "my go"
      all_goals (refine ⟨rfl, _, _, _, _, _, _, _, _, rfl, by assumption, by assumption, ?_⟩; unfold ShapeOk; decide)
    rintro f s' ⟨rfl, t, h, most, ta, tb, tc, h2, tk2, rfl, F2, N2, hsh⟩
    clear F N
    dsimp only
    walk_at "my go"
    rename Fr _ _ _ _ => F3
    rename News _ _ _ _ => N3
    k_dflt refine pool_ok _ _ _ _ _ _ _ _ _ _ _ _ _ _ _ _ (Cx.push B' X T F3 rfl rfl) (Nat.le_of_ble_eq_true rfl) (Heap.IsList.at hS fun o e => Fr.keep F3 _ o e) hI hlen ?_
    intro D nD pvs ps h4 tk4 kp4 hD1 hD2 hpi hpl hps
    have hDL := new_ne N3 (.head _) hD2
    have F4 := fr_keeps F3 kp4
    have N4 := news_more (tl := [(D, listOf pvs.toArray nD)]) F3 N3 kp4 (fun q hq => by rw [List.mem_singleton.mp hq]; exact ⟨hD1, hD2⟩)
    clear F3 N3
    walk_at "my go"
    rename Fr _ _ _ _ => F5
    rename News _ _ _ _ => N5
    k_dflt refine grow_ok _ _ _ _ _ _ _ _ _ _ _ _ D _ pvs _ ps t h most _ _ _ _ _ (Cx.push B' X T F5 rfl rfl) (Nat.le_of_ble_eq_true rfl) (Nat.le_of_ble_eq_true rfl) (Heap.IsList.at hS fun o e => Fr.keep F5 _ o e) hI hlen ⟨_, (N5 _ (.head _)).1, rfl, _, rfl⟩ hpi hpl hsh ?_
    rintro hN tp tl h6 tk6 kp6 htl ⟨bt, v, n, tkn, htp, htree, hwf, hino, hn23⟩ hhN hN2
    have htpL := new_ne N5 (.tail _ (.head _)) (htl _ htp).2
    dsimp only at htpL
    have F6 := fr_keeps F5 kp6
    obtain ⟨N6, off6⟩ := grown_news F5 N5 kp6 htl htp
    clear F5 N5
    subst hhN
    have hp64 : ps.length ≤ 64 := by omega
    walk_at "my go"
    rename IsRange _ _ _ _ _ _ _ _ => R1
    rename Fr _ _ _ _ => F7
    rename News _ _ _ _ => N7
    k_dflt refine range_st (σ := Unit) (n := hN + 1) (fun _ => []) [] (fun _ _ => True) () rfl R1 (small_one (by omega) (by omega) (by omega) (by omega)) (by rw [rangeSize_nat]; omega) F7 N7 (by kst_all) trivial ?turn ?done
    case turn =>
      rintro i _ t8 u8 h8 tk8 own hi8 _ F8 N8
      clear F7 N7 R1
      k_fold
      walk_at "my go"
      rename Fr _ _ _ _ => F9
      rename News _ _ _ _ => N9
      k_dflt refine lcount_deep _ _ _ _ _ _ _ hN bt (1 + claimMargin + 1) (4 + 3) _ _ v _ _ _ _ (Cx.push B' X T F9 rfl rfl) X T (dicts_of F9) (room_of hN2) (tree_at N9 (fun q hq => List.mem_append_right _ (.tail _ (.tail _ (.tail _ (.tail _ hq))))) htree) hwf (by omega) (by omega) ?_
      intro t9 h9 tk9 kt
      have F10 := fr_keepsT F9 kt
      have N10 := news_keepsT N9 kt
      clear F9 N9
      walk_at "my go"
      exact st_end () (by assumption) (by assumption) (fun p hp => hp) (by kst_all) (by walk_at "my same") trivial
    case done =>
      rintro _ u8 h8 tk8 _ F8 N8
      clear F7 N7 R1
      walk_at "my go"
      rename Fr _ _ _ _ => F11
      rename News _ _ _ _ => N11
      k_dflt refine tup_st (σ := Unit) (vs := [.int ((hN : Int) + 1) _, .int ((hN : Int) + 2) _, .int 64 _]) (fun _ => []) [Str.ofString "got"] (fun _ _ => True) () rfl (.head _) F11 N11 (by kst_all) trivial ?turn2 ?done2
      case turn2 =>
        rintro i _ v12 u12 h12 tk12 own hv12 _ F12 N12
        clear F11 N11
        obtain ⟨d, td, rfl, hd⟩ : ∃ d td, v12 = .int d td ∧ (hN : Int) < d := by
          rcases i with _ | _ | _ | i <;> simp at hv12 <;> (subst hv12; exact ⟨_, _, rfl, by omega⟩)
        k_fold
        walk_at "my go"
        rename Fr _ _ _ _ => F13
        rename News _ _ _ _ => N13
        k_dflt refine lcount_ok _ _ _ _ _ _ _ hN bt (1 + claimMargin + 1) (4 + 3) _ _ v _ _ _ _ (Cx.push B' X T F13 rfl rfl) (room_of hN2) (unit_of hN2) (tree_at N13 (fun q hq => List.mem_append_right _ (.tail _ (.tail _ (.tail _ (.tail _ (.tail _ hq)))))) htree) hwf hd ?_
        intro t14 h14 tk14 kp14
        have F14 := fr_keeps F13 kp14
        have N14 := news_keeps N13 kp14
        clear F13 N13
        have hcnt : (ino hN bt).length = n := by rw [hino, List.length_take]; omega
        rw [hcnt]
        walk_at "my go"
        · rename _ ≠ _ => hne
          exact absurd rfl hne
        · exact st_end () (by assumption) (by assumption) (fun p hp => hp) (by kst_all) (by walk_at "my same") trivial
      case done2 =>
        rintro _ u12 h12 tk12 _ F12 N12
        clear F11 N11
        walk_at "my go"
        rename Fr _ _ _ _ => F15
        rename News _ _ _ _ => N15
        k_dflt refine lrank_deep _ _ _ _ _ _ _ (1 + claimMargin + 1) (4 + 3) _ _ v _ _ _ _ (Cx.push B' X T F15 rfl rfl) X T (dicts_of F15) (Nat.le_of_ble_eq_true rfl) ?_
        intro t16 h16 tk16 kt16
        have F16 := fr_keepsT F15 kt16
        have N16 := news_keepsT N15 kt16
        clear F15 N15
        walk_at "my go"
        rename Fr _ _ _ _ => F17
        rename News _ _ _ _ => N17
        k_dflt refine lselect_deep _ _ _ _ _ _ _ (1 + claimMargin + 1) (4 + 3) _ _ v _ _ _ _ (Cx.push B' X T F17 rfl rfl) X T (dicts_of F17) (Nat.le_of_ble_eq_true rfl) ?_
        intro t18 h18 tk18 kt18
        have F18 := fr_keepsT F17 kt18
        have N18 := news_keepsT N17 kt18
        clear F17 N17
        walk_at "my go"
        rename Fr _ _ _ _ => F19
        rename News _ _ _ _ => N19
        k_dflt refine lselect_deep _ _ _ _ _ _ _ (1 + claimMargin + 1) (4 + 3) _ _ v _ _ _ _ (Cx.push B' X T F19 rfl rfl) X T (dicts_of F19) (Nat.le_of_ble_eq_true rfl) ?_
        intro t20 h20 tk20 kt20
        have F20 := fr_keepsT F19 kt20
        have N20 := news_keepsT N19 kt20
        clear F19 N19
        walk_at "my go"
        rename Fr _ _ _ _ => F21
        rename News _ _ _ _ => N21
        refine cut11 (hN : Int) F21 N21 ?_ ?_
        · walk1
          walk_at "my go"
          rename News _ _ _ _ => NE
          exact ⟨rfl, _, _, _, _, rfl, by assumption, fun p hp => NE p (.tail _ hp), menu_gt hN2 _⟩
        rintro f s' ⟨rfl, d, td, h22, tk22, rfl, F22, N22, hd⟩
        clear F21 N21
        have hsrt : (ino hN bt).Pairwise (· < ·) := by rw [hino]; exact hps.sublist (List.take_sublist n ps)
        dsimp only
        walk_at "my go"
        rename Fr _ _ _ _ => F23
        rename News _ _ _ _ => N23
        k_dflt refine lrank_ok _ _ _ _ _ _ _ hN bt (1 + claimMargin + 1) (4 + 3) _ _ v _ d _ _ _ _ (Cx.push B' X T F23 rfl rfl) (room_of hN2) (unit_of hN2) (tree_at N23 (fun q hq => .tail _ (.tail _ (.tail _ (.tail _ (.tail _ hq))))) htree) hwf hsrt hd ?_
        intro t24 h24 tk24 kp24
        have F24 := fr_keeps F23 kp24
        have N24 := news_keeps N23 kp24
        clear F23 N23
        have hfirst : below (ps.getD (Int.toNat 0) 0 - 1) (ino hN bt) = 0 := by
          rw [hino, show ps.getD (Int.toNat 0) 0 = ps[0]'(by omega) from getD_at (by omega)]; exact below_first hps (by omega)
        rw [hfirst]
        walk_at "my go"
        rename Fr _ _ _ _ => F25
        rename News _ _ _ _ => N25
        k_dflt refine lrank_ok _ _ _ _ _ _ _ hN bt (1 + claimMargin + 1) (4 + 3) _ _ v _ d _ _ _ _ (Cx.push B' X T F25 rfl rfl) (room_of hN2) (unit_of hN2) (tree_at N25 (fun q hq => .tail _ (.tail _ (.tail _ (.tail _ (.tail _ hq))))) htree) hwf hsrt hd ?_
        intro t26 h26 tk26 kp26
        have F26 := fr_keeps F25 kp26
        have N26 := news_keeps N25 kp26
        clear F25 N25
        walk_at "my go"
        rename Fr _ _ _ _ => F27
        rename News _ _ _ _ => N27
        k_dflt refine LCt.ListComp_T (F₀ := F27) (by with_unfolding_all rfl) (by decide) (by rfl) (by decide) (by rfl) ?_
        walk1
        rename IntsAre _ (List.take _ ps) => hks
        rw [show ((n : Nat) : Int).toNat = n from rfl] at hks
        k_dflt refine LCt.CompSrcT.ledger rfl F27 N27 (.tail _ (.head _)) (by rw [List.size_toArray, hks.length, List.length_take]; show _ ≤ 16777216; omega) ?_
        intro g
        k_dflt refine comp_restT (fun i ys => IntsAre ys (((ps.take n).take i).filter fun x => decide (x < ns.getD (Int.toNat 2) 0))) .nil ?step13 (.inr ⟨_, .tail _ (.head _), rfl, _, rfl⟩) ?fin13
        case step13 =>
          rintro i ys v13 I13 oI C13 oC D13 m13 h13 tk13 E13 hin r hP hoC hx13 F28 N28 off13 ne13
          obtain ⟨x13, t13, rfl, hx'⟩ := ints_at hks hP
          clear F27 N27
          k_fold
          walk_at "my go"
          · rename x13 < _ => c13
            exact ⟨_, _, rfl, by assumption, by assumption, filter_in hx' r c13⟩
          · rename ¬ (x13 < _) => c13
            exact ⟨_, _, rfl, by assumption, by assumption, filter_out hx' r c13⟩
        case fin13 =>
          rintro ys r D14 h28 tk28 F28 N28 off14
          clear F27 N27
          rw [List.size_toArray, hks.length, List.take_of_length_le (Nat.le_refl _)] at r
          have hfl : (below (ns.getD (Int.toNat 2) 0) (ino hN bt) : Int) = (((ps.take n).filter fun x => decide (x < ns.getD (Int.toNat 2) 0)).length : Int) := by rw [below_filter, hino]
          have hys64 : ((ps.take n).filter fun x => decide (x < ns.getD (Int.toNat 2) 0)).length ≤ 64 := Nat.le_trans (List.length_filter_le _ _) (by rw [List.length_take]; omega)
          walk_at "my go"
          · rename _ ≠ _ => c13
            exact absurd hfl c13
          rename IsRange _ _ _ _ _ _ _ _ => R29
          rename Fr _ _ _ _ => F29
          rename News _ _ _ _ => N29
          k_dflt refine range_st (σ := Unit) (n := n) (fun _ => []) [Str.ofString "got", Str.ofString "rank"] (fun _ _ => True) () rfl R29 (small_one (by omega) (by omega) (by omega) (by omega)) (by rw [rangeSize_nat]; omega) F29 N29 (by kst_all) trivial ?turn14 ?done14
          case turn14 =>
            rintro k _ t30 u30 h30 tk30 own hk _ F30 N30
            clear F29 N29 R29
            k_fold
            have hkk : (0 + (k : Int)).toNat = k := by omega
            have hkl : k < (ps.take n).length := by rw [List.length_take]; omega
            have hX : (ps.take n).getD (0 + (k : Int)).toNat 0 = ps[k]'(by omega) := by rw [hkk, getD_at hkl, List.getElem_take]
            have hb := below_at hps (n := n) (k := k) (by omega) hk
            have hb1 : below ((ps.take n).getD (0 + (k : Int)).toNat 0) (ino hN bt) = k := by rw [hX, hino]; exact hb.1
            have hb2 : below ((ps.take n).getD (0 + (k : Int)).toNat 0 + 1) (ino hN bt) = k + 1 := by rw [hX, hino]; exact hb.2
            have hsel : (ino hN bt)[(0 + (k : Int)).toNat]? = some ((ps.take n).getD (0 + (k : Int)).toNat 0) := by rw [hX, hino, hkk, List.getElem?_eq_getElem hkl, List.getElem_take]
            walk_at "my go"
            rename Fr _ _ _ _ => F31
            rename News _ _ _ _ => N31
            k_dflt refine lselect_ok _ _ _ _ _ _ _ hN bt (1 + claimMargin + 1) (4 + 3) _ _ v _ d _ _ _ _ (Cx.push B' X T F31 rfl rfl) (room_of hN2) (unit_of hN2) (tree_at N31 (fun q hq => List.mem_append_right _ (.tail _ (.tail _ (.tail _ (.tail _ (.tail _ (.tail _ hq))))))) htree) hwf (by omega) hd ?_
            intro r31 h32 tk32 kp32 so
            rw [hsel] at so
            obtain ⟨tg, rfl⟩ := so
            have F32 := fr_keeps F31 kp32
            have N32 := news_keeps N31 kp32
            clear F31 N31
            walk_at "my go"
            · rename _ ≠ _ => c14
              exact absurd rfl c14
            rename Fr _ _ _ _ => F33
            rename News _ _ _ _ => N33
            k_dflt refine lrank_ok _ _ _ _ _ _ _ hN bt (1 + claimMargin + 1) (4 + 3) _ _ v _ d _ _ _ _ (Cx.push B' X T F33 rfl rfl) (room_of hN2) (unit_of hN2) (tree_at N33 (fun q hq => List.mem_append_right _ (.tail _ (.tail _ (.tail _ (.tail _ (.tail _ (.tail _ hq))))))) htree) hwf hsrt hd ?_
            intro t34 h34 tk34 kp34
            have F34 := fr_keeps F33 kp34
            have N34 := news_keeps N33 kp34
            clear F33 N33
            rw [hb1]
            walk_at "my go"
            · rename _ ≠ _ => c15
              exact absurd (by omega) c15
            rename Fr _ _ _ _ => F35
            rename News _ _ _ _ => N35
            k_dflt refine lrank_ok _ _ _ _ _ _ _ hN bt (1 + claimMargin + 1) (4 + 3) _ _ v _ d _ _ _ _ (Cx.push B' X T F35 rfl rfl) (room_of hN2) (unit_of hN2) (tree_at N35 (fun q hq => List.mem_append_right _ (.tail _ (.tail _ (.tail _ (.tail _ (.tail _ (.tail _ hq))))))) htree) hwf hsrt hd ?_
            intro t36 h36 tk36 kp36
            have F36 := fr_keeps F35 kp36
            have N36 := news_keeps N35 kp36
            clear F35 N35
            rw [hb2]
            walk_at "my go"
            · rename _ ≠ _ => c16
              exact absurd (by omega) c16
            exact st_end () (by assumption) (by assumption) (fun p hp => hp) (by kst_all) (by walk_at "my same") trivial
          case done14 =>
            rintro _ u30 h30 tk30 _ F30 N30
            clear F29 N29 R29
            walk_at "my go"
            rename IsRange _ _ _ _ _ _ _ _ => R37
            rename Fr _ _ _ _ => F37
            rename News _ _ _ _ => N37
            k_dflt refine range_st (σ := Unit) (n := 3) (fun _ => []) [] (fun _ _ => True) () rfl R37 (small_one (by omega) (by omega) (by omega) (by omega)) (by rw [rangeSize_nat]; omega) F37 N37 (by kst_all) trivial ?turn15 ?done15
            case turn15 =>
              rintro k _ t38 u38 h38 tk38 own hk _ F38 N38
              clear F37 N37 R37
              k_fold
              have hsel : (ino hN bt)[((n : Int) + (k : Int)).toNat]? = none := by rw [hino]; exact List.getElem?_eq_none (by rw [List.length_take]; omega)
              walk_at "my go"
              rename Fr _ _ _ _ => F39
              rename News _ _ _ _ => N39
              k_dflt refine lselect_ok _ _ _ _ _ _ _ hN bt (1 + claimMargin + 1) (4 + 3) _ _ v _ d _ _ _ _ (Cx.push B' X T F39 rfl rfl) (room_of hN2) (unit_of hN2) (tree_at N39 (fun q hq => List.mem_append_right _ (.tail _ (.tail _ (.tail _ (.tail _ (.tail _ (.tail _ hq))))))) htree) hwf (by omega) hd ?_
              intro r39 h40 tk40 kp40 so
              rw [hsel] at so
              obtain rfl : r39 = .none := so
              have F40 := fr_keeps F39 kp40
              have N40 := news_keeps N39 kp40
              clear F39 N39
              walk_at "my go"
              exact st_end () (by assumption) (by assumption) (fun p hp => hp) (by kst_all) (by walk_at "my same") trivial
            case done15 =>
              rintro _ u38 h38 tk38 _ F38 N38
              clear F37 N37 R37
              walk_at "my go"
              wrow_close)

end Mine
theorem PySem.Challenge.cw_pd_canopy_2_05_holds : PySem.Challenge.rw_pd_canopy_2_05.Holds :=
  Mine.law_holds
