import PyProof.Rows.All
import Wide.All
import OpenK.AllK
import Wide.FinOn
import PyProof.TupleOfSeq
import KE.OsSort
import KE.KRevSl
import HandS.ForMost
import HandS.Conv
import HandS.IsInst
import HandS.NoneIn
import HandS.Style
import HandS.TupAny
import HandS.TupMul
import HandS.Star
import HandS.Wide
import HandS.Evl
import PySem.Challenge.RW_swapsheets_k17_whole_rows_of_a_told_leng
set_option Elab.async false
set_option linter.all false
set_option maxRecDepth 100000
set_option maxHeartbeats 3900000
/-! plain mathematics: swaps of values in lists, the strict row, orbits and their least places -/
namespace K17

def tau (a b x : Int) : Int := if x = a then b else if x = b then a else x
theorem tau_tau (a b x : Int) : tau a b (tau a b x) = x := by
  unfold tau
  by_cases h1 : x = a
  · subst h1
    by_cases h2 : b = x
    · simp [h2]
    · simp [h2]
  · by_cases h2 : x = b
    · subst h2; simp [h1]
    · simp [h1, h2]
theorem tau_inj {a b x y : Int} (h : tau a b x = tau a b y) : x = y := by
  have e := congrArg (tau a b) h
  rw [tau_tau, tau_tau] at e
  exact e
def swapL (a b : Int) (l : List Int) : List Int := l.map (tau a b)
theorem swapL_swapL (a b : Int) (l : List Int) : swapL a b (swapL a b l) = l := by
  unfold swapL
  rw [List.map_map]
  have : (tau a b ∘ tau a b) = id := funext fun x => tau_tau a b x
  rw [this, List.map_id]
theorem swapL_len (a b : Int) (l : List Int) : (swapL a b l).length = l.length := by unfold swapL; rw [List.length_map]

def rng (n : Nat) : List Int := (List.range n).map fun (i : Nat) => (i : Int)
theorem rng_len (n : Nat) : (rng n).length = n := by unfold rng; rw [List.length_map, List.length_range]
theorem rng_mem {n : Nat} {x : Int} : x ∈ rng n ↔ 0 ≤ x ∧ x < n := by
  unfold rng
  rw [List.mem_map]
  constructor
  · rintro ⟨i, hi, rfl⟩
    have := List.mem_range.mp hi
    omega
  · rintro ⟨h1, h2⟩
    exact ⟨x.toNat, List.mem_range.mpr (by omega), by omega⟩
theorem rng_get {n i : Nat} (h : i < n) : (rng n)[i]? = some (i : Int) := by
  unfold rng
  rw [List.getElem?_map, List.getElem?_range h]
  rfl
theorem rng_nodup (n : Nat) : (rng n).Nodup := by
  unfold rng
  exact List.Pairwise.map _ (fun a b (h : a ≠ b) e => h (by omega)) List.nodup_range
theorem rng_sorted (n : Nat) : (rng n).Pairwise (· ≤ ·) := by
  unfold rng
  refine List.Pairwise.map _ (fun a b (h : a < b) => ?_) List.pairwise_lt_range
  show (a : Int) ≤ (b : Int)
  omega

def prodFrom (l : List Int) (row : List (Int × Int)) : List Int := row.foldl (fun l s => swapL s.1 s.2 l) l
def prodL (n : Nat) (row : List (Int × Int)) : List Int := prodFrom (rng n) row
theorem prodFrom_snoc (l : List Int) (row : List (Int × Int)) (s : Int × Int) : prodFrom l (row ++ [s]) = swapL s.1 s.2 (prodFrom l row) := by
  unfold prodFrom
  rw [List.foldl_append]
  all_goals rfl
theorem prodFrom_len (l : List Int) : ∀ row : List (Int × Int), (prodFrom l row).length = l.length := by
  intro row
  unfold prodFrom
  induction row generalizing l with
  | nil => rfl
  | cons s r ih => rw [List.foldl_cons, ih, swapL_len]

structure Mv (n : Nat) (l : List Int) : Prop where
  len : l.length = n
  rg : ∀ x ∈ l, 0 ≤ x ∧ x < (n : Int)
  nd : l.Nodup
theorem Mv.of_perm {n : Nat} {l : List Int} (h : l.Perm (rng n)) : Mv n l :=
  ⟨by rw [h.length_eq, rng_len], fun x hx => rng_mem.mp (h.mem_iff.mp hx), h.symm.nodup (rng_nodup n)⟩
theorem tau_rg {n : Nat} {a b x : Int} (ha : 0 ≤ a ∧ a < (n : Int)) (hb : 0 ≤ b ∧ b < (n : Int)) (hx : 0 ≤ x ∧ x < (n : Int)) : 0 ≤ tau a b x ∧ tau a b x < (n : Int) := by
  unfold tau
  split
  · exact hb
  · split
    · exact ha
    · exact hx
theorem Mv.swap {n : Nat} {l : List Int} {a b : Int} (h : Mv n l) (ha : 0 ≤ a ∧ a < (n : Int)) (hb : 0 ≤ b ∧ b < (n : Int)) : Mv n (swapL a b l) where
  len := by rw [swapL_len]; exact h.len
  rg := fun x hx => by
    obtain ⟨y0, hy, rfl⟩ := List.mem_map.mp hx
    exact tau_rg ha hb (h.rg y0 hy)
  nd := List.Pairwise.map _ (fun x y (e : x ≠ y) z => e (tau_inj z)) h.nd

/-- the entry at a place -/
def fn (l : List Int) (i : Nat) : Nat := (l.getD i 0).toNat
theorem Mv.at {n : Nat} {l : List Int} (h : Mv n l) {i : Nat} (hi : i < n) : l[i]? = some ((fn l i : Nat) : Int) ∧ fn l i < n := by
  have h1 : i < l.length := by rw [h.len]; exact hi
  have e : l[i]? = some l[i] := List.getElem?_eq_getElem h1
  have r := h.rg l[i] (List.getElem_mem h1)
  unfold fn
  rw [List.getD_eq_getElem?_getD,
    e]
  show some l[i] = some ((l[i].toNat : Nat) : Int) ∧ l[i].toNat < n
  refine ⟨?_, by omega⟩
  rw [show ((l[i].toNat : Nat) : Int) = l[i] by omega]
theorem Mv.inj {n : Nat} {l : List Int} (h : Mv n l) {i j : Nat} (hi : i < n) (hj : j < n) (e : fn l i = fn l j) : i = j := by
  have a := (h.at hi).1
  have b := (h.at hj).1
  rw [e] at a
  have h1 : i < l.length := by rw [h.len]; exact hi
  have h2 : j < l.length := by rw [h.len]; exact hj
  obtain ⟨_, e1⟩ := List.getElem?_eq_some_iff.mp a
  obtain ⟨_, e2⟩ := List.getElem?_eq_some_iff.mp b
  exact (List.getElem_inj h.nd).mp (e1.trans e2.symm)
theorem fn_swap {n : Nat} {l : List Int} (h : Mv n l) {i a b : Nat} (hi : i < n) : fn (swapL (a : Int) (b : Int) l) i = if fn l i = a then b else if fn l i = b then a else fn l i := by
  have e := (h.at hi).1
  have e2 : (swapL (a : Int) (b : Int) l)[i]? = some (tau a b (fn l i : Nat)) := by
    unfold swapL
    rw [List.getElem?_map, e]
    rfl
  have e3 : fn (swapL (a : Int) (b : Int) l) i = (tau a b (fn l i : Nat)).toNat := by
    show ((swapL (a : Int) (b : Int) l).getD i 0).toNat = _
    rw [List.getD_eq_getElem?_getD, e2] <;> rfl
  rw [e3]
  unfold tau
  by_cases h1 : fn l i = a
  · simp [h1]
  · by_cases h2 : fn l i = b
    · rw [if_neg (by omega), if_pos (by omega), if_neg h1, if_pos h2]; omega
    · rw [if_neg (by omega), if_neg (by omega), if_neg h1, if_neg h2]; omega

/-- the swaps that the strict row is made of, in the sequence in which they are found -/
def stRow : Nat → List Int → List (Int × Int)
  | 0, _ => []
  | k + 1, l => if fn l (k + 1) = k + 1 then stRow k l else (((fn l (k + 1) : Nat) : Int), ((k + 1 : Nat) : Int)) :: stRow k (swapL ((fn l (k + 1) : Nat) : Int) ((k + 1 : Nat) : Int) l)
def strictL (l : List Int) : List (Int × Int) := (stRow (l.length - 1) l).reverse
/-- all places above k stand -/
def Fx (k n : Nat) (l : List Int) : Prop := ∀ j, k < j → j < n → fn l j = j
theorem Fx.low {k n : Nat} {l : List Int} (h : Mv n l) (hx : Fx k n l) (hk : k < n) : fn l k ≤ k := by
  have r := (h.at hk).2
  by_cases c : fn l k ≤ k
  · exact c
  · exact absurd (h.inj r hk (hx _ (by omega) r)) (by omega)
theorem Fx.same {k n : Nat} {l : List Int} (hx : Fx (k + 1) n l) (e : fn l (k + 1) = k + 1) : Fx k n l := fun j h1 h2 => by
  by_cases c : j = k + 1
  · rw [c]; exact e
  · exact hx j (by omega) h2
theorem Fx.step {k n : Nat} {l : List Int} (h : Mv n l) (hx : Fx (k + 1) n l) (hk : k + 1 < n) : Fx k n (swapL ((fn l (k + 1) : Nat) : Int) ((k + 1 : Nat) : Int) l) := fun j h1 h2 => by
  rw [fn_swap h h2]
  by_cases c : j = k + 1
  · subst c; simp
  · have e := hx j (by omega) h2
    have lo := Fx.low h hx hk
    rw [e, if_neg (by omega), if_neg c]
theorem Mv.st {k n : Nat} {l : List Int} (h : Mv n l) (hk : k + 1 < n) : Mv n (swapL ((fn l (k + 1) : Nat) : Int) ((k + 1 : Nat) : Int) l) :=
  h.swap (by have := (h.at hk).2; omega) (by omega)

def okSwap (n : Nat) (s : Int × Int) : Prop := 0 ≤ s.1 ∧ s.1 < s.2 ∧ s.2 < (n : Int)
theorem st_ok {n : Nat} : ∀ (k : Nat) (l : List Int), k < n → Mv n l → Fx k n l → ∀ s ∈ stRow k l, okSwap n s
  | 0, _, _, _, _ => fun s hs => nomatch hs
  | k + 1, l, hk, h, hx => fun s hs => by
    unfold stRow at hs
    by_cases c : fn l (k + 1) = k + 1
    · rw [if_pos c] at hs
      exact st_ok k l (by omega) h (hx.same c) s hs
    · rw [if_neg c] at hs
      rcases List.mem_cons.mp hs with e | hs
      · subst e
        have lo := Fx.low h hx hk
        exact ⟨by show (0 : Int) ≤ ((fn l (k + 1) : Nat) : Int); omega, by show ((fn l (k + 1) : Nat) : Int) < ((k + 1 : Nat) : Int); omega, by show ((k + 1 : Nat) : Int) < (n : Int); omega⟩
      · exact st_ok k _ (by omega) (h.st hk) (Fx.step h hx hk) s hs
theorem st_len {n : Nat} : ∀ (k : Nat) (l : List Int), (stRow k l).length ≤ k
  | 0, _ => Nat.le_refl _
  | k + 1, l => by
    unfold stRow
    split
    · exact Nat.le_succ_of_le (st_len (n := n) k _)
    · rw [List.length_cons]
      exact Nat.succ_le_succ (st_len (n := n) k _)
theorem st_prod {n : Nat} : ∀ (k : Nat) (l : List Int), k < n → Mv n l → Fx k n l → prodL n (stRow k l).reverse = l
  | 0, l, hk, h, hx => by
    show rng n = l
    apply List.ext_getElem?
    intro i
    by_cases hi : i < n
    · rw [rng_get hi, (h.at hi).1]
      have e : fn l i = i := by
        by_cases c : i = 0
        · subst c
          have := Fx.low h hx hk
          omega
        · exact hx i (by omega) hi
      rw [e]
    · rw [List.getElem?_eq_none (by rw [rng_len]; omega), List.getElem?_eq_none (by rw [h.len]; omega)]
  | k + 1, l, hk, h, hx => by
    unfold stRow
    by_cases c : fn l (k + 1) = k + 1
    · rw [if_pos c]
      exact st_prod k l (by omega) h (hx.same c)
    · rw [if_neg c, List.reverse_cons]
      have ih := st_prod k _ (by omega) (h.st hk) (Fx.step h hx hk)
      unfold prodL at ih ⊢
      rw [prodFrom_snoc, ih, swapL_swapL]

/-! ### orbits -/
def it (f : Nat → Nat) : Nat → Nat → Nat
  | 0, s => s
  | j + 1, s => f (it f j s)
theorem it_add (f : Nat → Nat) (i j s : Nat) : it f (i + j) s = it f i (it f j s) := by
  induction i with
  | zero => rw [Nat.zero_add]; rfl
  | succ i ih => rw [Nat.succ_add]; show f (it f (i + j) s) = f (it f i (it f j s)); rw [ih]
def isMin (f : Nat → Nat) (s : Nat) : Prop := ∀ j, s ≤ it f j s
open Classical in
noncomputable def cnt (f : Nat → Nat) (k : Nat) : Nat := ((List.range k).filter fun s => decide (isMin f s)).length
theorem cnt_zero (f : Nat → Nat) : cnt f 0 = 0 := rfl
theorem cnt_yes {f : Nat → Nat} {k : Nat} (h : isMin f k) : cnt f (k + 1) = cnt f k + 1 := by
  unfold cnt
  rw [List.range_succ, List.filter_append, List.length_append, List.filter_cons, if_pos (by simpa using h)] <;> rfl
theorem cnt_no {f : Nat → Nat} {k : Nat} (h : ¬ isMin f k) : cnt f (k + 1) = cnt f k := by
  unfold cnt
  rw [List.range_succ, List.filter_append, List.length_append, List.filter_cons, if_neg (by simpa using h)] <;> rfl
theorem cnt_congr {f g : Nat → Nat} : ∀ {k : Nat}, (∀ s, s < k → (isMin f s ↔ isMin g s)) → cnt f k = cnt g k
  | 0, _ => rfl
  | k + 1, h => by
    have ih := cnt_congr (f := f) (g := g) (k := k) fun s hs => h s (by omega)
    by_cases c : isMin f k
    · rw [cnt_yes c, cnt_yes ((h k (by omega)).mp c), ih]
    · rw [cnt_no c, cnt_no (fun z => c ((h k (by omega)).mpr z)), ih]
theorem cnt_le (f : Nat → Nat) (k : Nat) : cnt f k ≤ k := by
  unfold cnt
  have h := List.length_filter_le (fun s => @decide (isMin f s) (Classical.propDecidable _)) (List.range k)
  rw [List.length_range] at h
  exact h

/-- cut the place k + 1 out of its cycle -/
theorem min_cut {n k v : Nat} {f g : Nat → Nat} (hk : k + 1 < n) (hv : v < k + 1) (fk : f (k + 1) = v) (fr : ∀ x, x < n → f x < n) (fi : ∀ x y, x < n → y < n → f x = f y → x = y)
    (hg : ∀ x, x < n → g x = if f x = v then k + 1 else if f x = k + 1 then v else f x) {s : Nat} (hs : s < k + 1) : isMin f s ↔ isMin g s := by
  have g1 : ∀ x, x < n → x ≠ k + 1 → g x = if f x = k + 1 then v else f x := fun x hx hne => by
    rw [hg x hx, if_neg (fun e => hne (fi x (k + 1) hx hk (e.trans fk.symm)))]
  constructor
  · intro h j
    have c : ∀ j, ∃ i, it g j s = it f i s ∧ it f i s ≠ k + 1 ∧ it f i s < n := by
      intro j
      induction j with
      | zero => exact ⟨0, rfl, by show s ≠ k + 1; omega, by show s < n; omega⟩
      | succ j ih =>
        obtain ⟨i, e, h1, h2⟩ := ih
        have e2 : it g (j + 1) s = g (it f i s) := by show g (it g j s) = _; rw [e]
        rw [g1 _ h2 h1] at e2
        by_cases q : f (it f i s) = k + 1
        · rw [if_pos q] at e2
          have e3 : it f (i + 2) s = v := by show f (f (it f i s)) = v; rw [q, fk]
          exact ⟨i + 2, by rw [e2, e3], by rw [e3]; omega, by rw [e3]; omega⟩
        · rw [if_neg q] at e2
          exact ⟨i + 1, e2, q, fr _ h2⟩
    obtain ⟨i, e, _, _⟩ := c j
    rw [e]
    exact h i
  · intro h j
    have c : ∀ j, (∃ i, it f j s = it g i s ∧ it f j s ≠ k + 1 ∧ it f j s < n) ∨ (it f j s = k + 1 ∧ ∃ i, it g i s = v) := by
      intro j
      induction j with
      | zero => exact .inl ⟨0, rfl, by show s ≠ k + 1; omega, by show s < n; omega⟩
      | succ j ih =>
        rcases ih with ⟨i, e, h1, h2⟩ | ⟨e, i, hi⟩
        · have e2 : it g (i + 1) s = g (it f j s) := by show g (it g i s) = _; rw [e]
          rw [g1 _ h2 h1] at e2
          by_cases q : f (it f j s) = k + 1
          · rw [if_pos q] at e2
            exact .inr ⟨q, i + 1, e2⟩
          · rw [if_neg q] at e2
            exact .inl ⟨i + 1, e2.symm, q, fr _ h2⟩
        · have e2 : it f (j + 1) s = v := by show f (it f j s) = v; rw [e, fk]
          exact .inl ⟨i, by rw [e2, hi], by rw [e2]; omega, by rw [e2]; omega⟩
    rcases c j with ⟨i, e, _, _⟩ | ⟨e, _⟩
    · rw [e]; exact h i
    · rw [e]; omega
theorem min_fix {f : Nat → Nat} {s : Nat} (h : f s = s) : isMin f s := by
  have c : ∀ j, it f j s = s := by
    intro j
    induction j with
    | zero => rfl
    | succ j ih => show f (it f j s) = s; rw [ih, h]
  intro j
  rw [c j]
  exact Nat.le_refl _
theorem min_count {n : Nat} : ∀ (k : Nat) (l : List Int), k < n → Mv n l → Fx k n l → cnt (fn l) (k + 1) + (stRow k l).length = k + 1
  | 0, l, hk, h, hx => by
    rw [cnt_yes (fun j => Nat.zero_le _), cnt_zero]
    rfl
  | k + 1, l, hk, h, hx => by
    unfold stRow
    by_cases c : fn l (k + 1) = k + 1
    · rw [if_pos c, cnt_yes (min_fix c)]
      have := min_count k l (by omega) h (hx.same c)
      omega
    · rw [if_neg c, List.length_cons]
      have lo := Fx.low h hx hk
      have hv : fn l (k + 1) < k + 1 := by omega
      rw [cnt_no (fun z => absurd (z 1) (by show ¬ k + 1 ≤ fn l (k + 1); omega))]
      have e : cnt (fn l) (k + 1) = cnt (fn (swapL ((fn l (k + 1) : Nat) : Int) ((k + 1 : Nat) : Int) l)) (k + 1) :=
        cnt_congr fun s hs => min_cut hk hv rfl (fun x hx' => (h.at hx').2) (fun x y hx' hy e => h.inj hx' hy e) (fun x hx' => fn_swap h hx') hs
      have := min_count k _ (by omega) (h.st hk) (Fx.step h hx hk)
      rw [e]
      omega
theorem strict_len {n : Nat} {l : List Int} (hn : 0 < n) (h : Mv n l) : (strictL l).length + cnt (fn l) n = n := by
  unfold strictL
  rw [List.length_reverse, h.len]
  have := min_count (n - 1) l (by omega) h (fun j h1 h2 => by omega)
  rw [show n - 1 + 1 = n by omega] at this
  omega
theorem strict_prod {n : Nat} {l : List Int} (hn : 0 < n) (h : Mv n l) : prodL n (strictL l) = l := by
  unfold strictL
  rw [h.len]
  exact st_prod (n - 1) l (by omega) h (fun j h1 h2 => by omega)
theorem strict_ok {n : Nat} {l : List Int} (hn : 0 < n) (h : Mv n l) : ∀ s ∈ strictL l, okSwap n s := fun s hs => by
  unfold strictL at hs
  rw [h.len] at hs
  exact st_ok (n - 1) l (by omega) h (fun j h1 h2 => by omega) s (List.mem_reverse.mp hs)
end K17
/-! plain mathematics: periods, the cycles as they are met, rows of a told length -/
namespace K17

/-! ### a place comes back -/
theorem it_lt {f : Nat → Nat} {n s : Nat} (fr : ∀ x, x < n → f x < n) (hs : s < n) : ∀ j, it f j s < n
  | 0 => hs
  | j + 1 => fr _ (it_lt fr hs j)
theorem it_cancel {f : Nat → Nat} {n s : Nat} (fr : ∀ x, x < n → f x < n) (fi : ∀ x y, x < n → y < n → f x = f y → x = y) (hs : s < n) : ∀ i j, it f (i + j) s = it f i s → it f j s = s
  | 0, j, e => by rw [Nat.zero_add] at e; exact e
  | i + 1, j, e => by
    have e2 : f (it f (i + j) s) = f (it f i s) := by
      have : it f (i + 1 + j) s = f (it f (i + j) s) := by rw [Nat.succ_add]; rfl
      rw [← this]; exact e
    exact it_cancel fr fi hs i j (fi _ _ (it_lt fr hs _) (it_lt fr hs _) e2)
theorem nodup_short : ∀ (n : Nat) (l : List Nat), (∀ x ∈ l, x < n) → l.Nodup → l.length ≤ n
  | 0, [], _, _ => Nat.le_refl _
  | 0, x :: r, h, _ => absurd (h x List.mem_cons_self) (Nat.not_lt_zero _)
  | n + 1, l, h, d => by
    have ih := nodup_short n (l.erase n) (fun x hx => by
      have h1 := h x (List.mem_of_mem_erase hx)
      have h2 : x ≠ n := fun e => by
        rw [e] at hx
        exact d.not_mem_erase hx
      omega) (d.erase n)
    by_cases c : n ∈ l
    · rw [List.length_erase_of_mem c] at ih
      omega
    · rw [List.erase_of_not_mem c] at ih
      omega
theorem back {f : Nat → Nat} {n s : Nat} (fr : ∀ x, x < n → f x < n) (fi : ∀ x y, x < n → y < n → f x = f y → x = y) (hs : s < n) : ∃ m, 0 < m ∧ it f m s = s := by
  by_cases c : ∃ m, 0 < m ∧ it f m s = s
  · exact c
  · have d : ((List.range (n + 1)).map fun j => it f j s).Nodup := by
      refine List.pairwise_map.mpr ?_
      have hr : (List.range (n + 1)).Pairwise (· < ·) := List.pairwise_lt_range
      refine hr.imp ?_
      intro a b hab e
      refine c ⟨b - a, by omega, ?_⟩
      have e2 : it f (a + (b - a)) s = it f a s := by rw [show a + (b - a) = b by omega]; exact e.symm
      exact it_cancel fr fi hs a (b - a) e2
    have := nodup_short n _ (fun x hx => by
      obtain ⟨j, _, rfl⟩ := List.mem_map.mp hx
      exact it_lt fr hs j) d
    rw [List.length_map, List.length_range] at this
    omega
theorem least_of {p : Nat → Prop} : ∀ m, p m → ∃ k, p k ∧ ∀ j, j < k → ¬ p j := by
  intro m
  induction m using
    Nat.strongRecOn with
  | _ m ih =>
    intro h
    by_cases c : ∃ j, j < m ∧ p j
    · obtain ⟨j, h1, h2⟩ := c
      exact ih j h1 h2
    · exact ⟨m, h, fun j hj z => c ⟨j, hj, z⟩⟩
theorem period {f : Nat → Nat} {n s : Nat} (fr : ∀ x, x < n → f x < n) (fi : ∀ x y, x < n → y < n → f x = f y → x = y) (hs : s < n) :
    ∃ m, 0 < m ∧ it f m s = s ∧ ∀ j, 0 < j → j < m → it f j s ≠ s := by
  obtain ⟨m, hm⟩ := back fr fi hs
  obtain ⟨k, ⟨h1, h2⟩, h3⟩ := least_of (p := fun m => 0 < m ∧ it f m s = s) m hm
  exact ⟨k, h1, h2, fun j a b e => h3 j b ⟨a, e⟩⟩
theorem it_mul {f : Nat → Nat} {m s : Nat} (h : it f m s = s) : ∀ j, it f (m * j) s = s
  | 0 => rfl
  | j + 1 => by rw [Nat.mul_succ, it_add, h, it_mul h j]
theorem it_mod {f : Nat → Nat} {m s : Nat} (h : it f m s = s) (j : Nat) : it f j s = it f (j % m) s := by
  have e : j = j % m + m * (j / m) := (Nat.mod_add_div j m).symm
  have := it_add f (j % m) (m * (j / m)) s
  rw [← e, it_mul h] at this
  exact this
theorem there_back {f : Nat → Nat} {n s : Nat} (fr : ∀ x, x < n → f x < n) (fi : ∀ x y, x < n → y < n → f x = f y → x = y) (hs : s < n) (j : Nat) : ∃ i, it f i (it f j s) = s := by
  obtain ⟨m, h1, h2⟩ := back fr fi hs
  refine ⟨m * j - j, ?_⟩
  rw [← it_add, show m * j - j + j = m * j from Nat.sub_add_cancel (Nat.le_mul_of_pos_left j h1)]
  exact it_mul h2 j

/-! ### the cycles as they are met: i starts are through, met holds what they reach, many of them were new -/
structure Met (f : Nat → Nat) (i : Nat) (met : List Int) (many : Nat) : Prop where
  mem : ∀ x : Int, x ∈ met ↔ ∃ s j, s < i ∧ x = ((it f j s : Nat) : Int)
  num : many = cnt f i
theorem Met.zero (f : Nat → Nat) : Met f 0 [] 0 where
  mem := fun x => Iff.intro (fun h => absurd h List.not_mem_nil) (fun h => by
    obtain ⟨s, j, h, _⟩ := h
    exact absurd h (Nat.not_lt_zero _))
  num := rfl
theorem Met.new {f : Nat → Nat} {n i many : Nat} {met : List Int} (fr : ∀ x, x < n → f x < n) (fi : ∀ x y, x < n → y < n → f x = f y → x = y) (hi : i < n) (h : Met f i met many) : (i : Int) ∈ met ↔ ¬ isMin f i := by
  constructor
  · intro hm hmin
    obtain ⟨s, j, hs, e⟩ := (h.mem _).mp hm
    have e2 : i = it f j s := by omega
    obtain ⟨k, hk⟩ := there_back fr fi (show s < n by omega) j
    rw [← e2] at hk
    have := hmin k
    omega
  · intro hn
    have : ∃ j, it f j i < i := by
      apply Classical.byContradiction
      intro c
      exact hn fun j => by
        by_cases q : i ≤ it f j i
        · exact q
        · exact absurd ⟨j, by omega⟩ c
    obtain ⟨j, hj⟩ := this
    obtain ⟨k, hk⟩ := there_back fr fi hi j
    exact (h.mem _).mpr ⟨it f j i, k, hj, by rw [hk]⟩
theorem Met.old {f : Nat → Nat} {n i many : Nat} {met : List Int} (fr : ∀ x, x < n → f x < n) (fi : ∀ x y, x < n → y < n → f x = f y → x = y) (hi : i < n) (h : Met f i met many) (hm : (i : Int) ∈ met) : Met f (i + 1) met many where
  mem := fun x => by
    rw [h.mem]
    constructor
    · rintro ⟨s, j, hs, e⟩
      exact ⟨s, j, by omega, e⟩
    · rintro ⟨s, j, hs, e⟩
      by_cases c : s = i
      · obtain ⟨s', j', hs', e'⟩ := (h.mem _).mp hm
        have e2 : i = it f j' s' := by omega
        exact ⟨s', j + j', hs', by rw [it_add, ← e2, ← c]; exact e⟩
      · exact ⟨s, j, by omega, e⟩
  num := by rw [cnt_no ((h.new fr fi hi).mp hm)]; exact h.num
/-- the cycle of s, the first c of its places -/
def cyc (f : Nat → Nat) (s c : Nat) : List Int := (List.range c).map fun (j : Nat) => ((it f j s : Nat) : Int)
theorem cyc_one (f : Nat → Nat) (s : Nat) : cyc f s 1 = [(s : Int)] := rfl
theorem cyc_snoc (f : Nat → Nat) (s c : Nat) : cyc f s (c + 1) = cyc f s c ++ [((it f c s : Nat) : Int)] := by
  unfold cyc
  rw [List.range_succ, List.map_append]
  all_goals rfl
theorem cyc_len (f : Nat → Nat) (s c : Nat) : (cyc f s c).length = c := by unfold cyc; rw [List.length_map, List.length_range]
theorem Met.add {f : Nat → Nat} {n i many m : Nat} {met : List Int} (fr : ∀ x, x < n → f x < n) (fi : ∀ x y, x < n → y < n → f x = f y → x = y) (hi : i < n) (h : Met f i met many) (hm : (i : Int) ∉ met) (h0 : 0 < m) (h1 : it f m i = i) : Met f (i + 1) (met ++ cyc f i m) (many + 1) where
  mem := fun x => by
    rw [List.mem_append, h.mem]
    constructor
    · rintro (⟨s, j, hs, e⟩ | hx)
      · exact ⟨s, j, by omega, e⟩
      · obtain ⟨j, _, rfl⟩ := List.mem_map.mp hx
        exact ⟨i, j, by omega, rfl⟩
    · rintro ⟨s, j, hs, e⟩
      by_cases c : s = i
      · right
        rw [c, it_mod h1] at e
        exact List.mem_map.mpr ⟨j % m, List.mem_range.mpr (Nat.mod_lt _ h0), e.symm⟩
      · exact .inl ⟨s, j, by omega, e⟩
  num := by
    have : isMin f i := Classical.byContradiction fun c => hm ((h.new fr fi hi).mpr c)
    rw [cnt_yes this, h.num]
theorem met_len {f : Nat → Nat} {n i m : Nat} (fr : ∀ x, x < n → f x < n) (fi : ∀ x y, x < n → y < n → f x = f y → x = y) (hi : i < n) (h1 : it f m i = i) (h2 : ∀ j, 0 < j → j < m → it f j i ≠ i) : m ≤ n := by
  have d : ((List.range m).map fun j => it f j i).Nodup := by
    refine List.pairwise_map.mpr ?_
    have hr : (List.range m).Pairwise (· < ·) := List.pairwise_lt_range
    refine List.Pairwise.imp_of_mem ?_ hr
    intro a b ha hb hab e
    have hb' := List.mem_range.mp hb
    exact h2 (b - a) (by omega) (by omega) (it_cancel fr fi hi a (b - a) (by rw [show a + (b - a) = b by omega]; exact e.symm))
  have := nodup_short n _ (fun x hx => by
    obtain ⟨j, _, rfl⟩ := List.mem_map.mp hx
    exact it_lt fr hi j) d
  rw [List.length_map, List.length_range] at this
  exact this

/-! ### rows of a told length -/
def rowOf (l : List Int) (many : Int) : Option (List (Int × Int)) :=
  if many - ((strictL l).length : Int) < 0 ∨ (many - ((strictL l).length : Int)) % 2 = 1 ∨ (0 < many - ((strictL l).length : Int) ∧ l.length = 1) then none
  else some (strictL l ++ List.replicate (many - ((strictL l).length : Int)).toNat (0, 1))
/-- whether so many swaps can make a move -/
def canBe (n : Nat) (least many : Int) : Prop := least ≤ many ∧ (many - least) % 2 = 0 ∧ (1 < n ∨ many = 0)
theorem rowOf_none {n : Nat} {l : List Int} (hn : 0 < n) (h : Mv n l) (many : Int) (h0 : 0 ≤ many) : rowOf l many = none ↔ ¬ canBe n ((n : Int) - (cnt (fn l) n : Nat)) many := by
  have e := strict_len hn h
  have le : (n : Int) - (cnt (fn l) n : Nat) = ((strictL l).length : Int) := by omega
  rw [le]
  have hl := h.len
  have h1 : n = 1 → (strictL l).length = 0 := fun q => by
    unfold strictL
    rw [List.length_reverse, hl, q]
    rfl
  unfold rowOf canBe
  constructor
  · intro q
    by_cases c : many - ((strictL l).length : Int) < 0 ∨ (many - ((strictL l).length : Int)) % 2 = 1 ∨ (0 < many - ((strictL l).length : Int) ∧ l.length = 1)
    · rcases c with c | c | ⟨c1, c2⟩
      · omega
      · omega
      · have := h1 (by omega)
        omega
    · rw [if_neg c] at q
      cases q
  · intro q
    rw [if_pos]
    have : n = 1 ∨ 1 < n := by omega
    rcases this with z | z
    · have := h1 z
      omega
    · omega
theorem swap01_twice (l : List Int) : ∀ k, prodFrom l (List.replicate (2 * k) (0, 1)) = l
  | 0 => rfl
  | k + 1 => by
    show prodFrom (swapL 0 1 (swapL 0 1 l)) (List.replicate (2 * k) (0, 1)) = l
    rw [swapL_swapL]
    exact swap01_twice l k
theorem rowOf_some {n : Nat} {l : List Int} {many : Int} {r : List (Int × Int)} (hn : 0 < n) (h : Mv n l) (h0 : 0 ≤ many) (e : rowOf l many = some r) : (r.length : Int) = many ∧ (∀ s ∈ r, okSwap n s) ∧ prodL n r = l := by
  unfold rowOf at e
  by_cases c : many - ((strictL l).length : Int) < 0 ∨ (many - ((strictL l).length : Int)) % 2 = 1 ∨ (0 < many - ((strictL l).length : Int) ∧ l.length = 1)
  · rw [if_pos c] at e
    cases e
  · rw [if_neg c] at e
    cases e
    have hl := h.len
    refine ⟨?_, ?_, ?_⟩
    · rw [List.length_append, List.length_replicate]
      omega
    · intro s hs
      rcases List.mem_append.mp hs with hs | hs
      · exact strict_ok hn h s hs
      · obtain ⟨hne, rfl⟩ := List.mem_replicate.mp hs
        exact ⟨by decide, by decide, by show (1 : Int) < n; omega⟩
    · unfold prodL prodFrom
      rw [List.foldl_append]
      have e1 := strict_prod hn h
      unfold prodL prodFrom at e1
      rw [e1]
      have e2 := swap01_twice l ((many - ((strictL l).length : Int)).toNat / 2)
      rw [show 2 * ((many - ((strictL l).length : Int)).toNat / 2) = (many - ((strictL l).length : Int)).toNat by omega] at e2
      exact e2
end K17
/-! own rules: chains of three comparisons, a tuple turned round, repr of a bool, sorted of a tuple -/
namespace K17
open L2 PySem PySem.Spec PyProof.Rows
section
variable {X : Cx} {a b c d : Expr} {ta tb tc td : TE} {pos : Pos}
/-! ### a < b < c < d -/
def tLinks (r1 r2 r3 : R2) (ta tb tc td : TE) : TE := fun σ H Q =>
  ta σ H fun x H1 => tb σ H1 fun y H2 => r1 x y H2 fun z H3 => ∃ k, z = .bl k ∧
    (if k = true then tc σ H3 fun u H4 => r2 y u H4 fun z' H5 => ∃ k', z' = .bl k' ∧ (if k' = true then td σ H5 fun v H6 => r3 u v H6 Q else Q (.bl false) H5)
      else Q (.bl false) H3)
theorem pe_links {o1 o2 o3 : CmpOp} {r1 r2 r3 : R2} (h1 : OpR X (compareOp o1) r1) (h2 : OpR X (compareOp o2) r2) (h3 : OpR X (compareOp o3) r3)
    (ha : PE X a ta) (hb : PE X b tb) (hc : PE X c tc) (hd : PE X d td) (hm : lastMarks [o1, o2, o3] [b, c, d] = false := by with_unfolding_all rfl) :
    PE X (.Compare a [o1, o2, o3] [b, c, d] pos) (tLinks r1 r2 r3 ta tb tc td) := by
  constructor
  intro pins s σ H Q I h
  refine Compare_chain ?_ hm
  refine thn (ha.run pins s σ H _ I h) ?_
  rintro v s1 ⟨x, H1, I1, rx, q1⟩
  refine chain_link ?_
  refine thn (hb.run pins s1 σ H1 _ I1 q1) ?_
  rintro u s2 ⟨y, H2, I2, ry, q2⟩
  refine thn (h1 pins s2 σ H2 x y v u _ I2 rx ry q2) ?_
  rintro e s3 ⟨z, H3, I3, rz, k, rfl, q3⟩
  cases rz
  refine wpAny_truthy_bool ?_
  cases k
  · exact ite_ff ⟨.bl false, H3, I3, rfl, q3⟩
  refine ite_tt (chain_link ?_)
  refine thn (hc.run pins s3 σ H3 _ I3 q3) ?_
  rintro u' s4 ⟨y', H4, I4, ry', q4⟩
  refine thn (h2 pins s4 σ H4 y y' u u' _ I4 ry ry' q4) ?_
  rintro e' s5 ⟨z', H5, I5, rz', k', rfl, q5⟩
  cases rz'
  refine wpAny_truthy_bool ?_
  cases k'
  · exact ite_ff ⟨.bl false, H5, I5, rfl, q5⟩
  refine ite_tt (chain_last ?_)
  refine thn (hd.run pins s5 σ H5 _ I5 q5) ?_
  rintro w' s6 ⟨y2, H6, I6, ry2, q6⟩
  exact h3 pins s6 σ H6 y' y2 u' w' Q I6 ry' ry2 q6
theorem pt_links {o1 o2 o3 : CmpOp} {r1 r2 r3 : R2} (h1 : OpR X (compareOp o1) r1) (h2 : OpR X (compareOp o2) r2) (h3 : OpR X (compareOp o3) r3)
    (ha : PE X a ta) (hb : PE X b tb) (hc : PE X c tc) (hd : PE X d td) (hm : lastMarks [o1, o2, o3] [b, c, d] = false := by with_unfolding_all rfl) :
    PT X (.Compare a [o1, o2, o3] [b, c, d] pos) (tTest (tLinks r1 r2 r3 ta tb tc td)) := by
  constructor
  intro pins s σ H Q I h
  refine isTrue_chain ?_ hm
  refine thn (ha.run pins s σ H _ I h) ?_
  rintro v s1 ⟨x, H1, I1, rx, q1⟩
  refine test_link ?_
  refine thn (hb.run pins s1 σ H1 _ I1 q1) ?_
  rintro u s2 ⟨y, H2, I2, ry, q2⟩
  refine thn (h1 pins s2 σ H2 x y v u _ I2 rx ry q2) ?_
  rintro e s3 ⟨z, H3, I3, rz, k, rfl, q3⟩
  cases rz
  refine wpAny_truthy_bool ?_
  cases k
  · obtain ⟨k2, e2, q'⟩ := q3
    cases e2
    exact ite_ff ⟨H3, I3, q'⟩
  refine ite_tt (test_link ?_)
  refine thn (hc.run pins s3 σ H3 _ I3 q3) ?_
  rintro u' s4 ⟨y', H4, I4, ry', q4⟩
  refine thn (h2 pins s4 σ H4 y y' u u' _ I4 ry ry' q4) ?_
  rintro e' s5 ⟨z', H5, I5, rz', k', rfl, q5⟩
  cases rz'
  refine wpAny_truthy_bool ?_
  cases k'
  · obtain ⟨k2, e2, q'⟩ := q5
    cases e2
    exact ite_ff ⟨H5, I5, q'⟩
  refine ite_tt (test_last ?_)
  refine thn (hd.run pins s5 σ H5 _ I5 q5) ?_
  rintro w' s6 ⟨y2, H6, I6, ry2, q6⟩
  refine thn (h3 pins s6 σ H6 y' y2 u' w' _ I6 ry' ry2 q6) ?_
  rintro e2 s7 ⟨z2, H7, I7, rz2, k2, rfl, q7⟩
  cases rz2
  exact wpAny_truthy_bool ⟨H7, I7, q7⟩

/-! ### repr of a bool -/
def boolText (b : Bool) : Str := if b then "True" else "False"
theorem call_repr_bool : CallR X (.builtin "repr") (fun xs H Q => ∃ b, xs = [.bl b] ∧ Q (.str (boolText b)) H) := by
  intro pins s σ H xs us
  intro Q I r h
  obtain ⟨b, rfl, q⟩ := h
  obtain ⟨u, rfl, rel⟩ := vals1 r
  cases rel
  refine PySem.P.repr_of_bool ?_
  have e : (Str.ofString (if b = true then "True" else "False")) = boolText b := by cases b <;> rfl
  first
    | exact ⟨.str _, H, I.tok _, ⟨_, rfl⟩, q⟩
    | exact ⟨.str (boolText b), H, I.tok _, ⟨_, by cases b <;> rfl⟩, q⟩
end

/-! ### sorted(t), t a tuple of fewer than 64 ints -/
section
variable {prog : Program} {w : World} {s : Shared} {A : Around} {E : Value → Shared → Prop}
theorem sorted_tup_ints {l : Addr} {vs : List Value} {ns : List Int} {Q : Value → Shared → Prop} (ht : IsTup s.heap l vs.toArray) (hI : IntsAre vs ns) (h64 : vs.length < 64)
    (hq : ∀ (h1 h' : Heap) (out : List Value) (ns' : List Int) (e : Nat), (∀ b o, s.heap.get? b = some o → h1.get? b = some o) → (∀ b o, h1.get? b = some o → h'.get? b = some o) →
      h'.get? h1.objs.size = some (seqObj "list" out.toArray e) → IntsAre out ns' → ns'.Perm ns → ns'.Pairwise (· ≤ ·) → Q (.ref h1.objs.size) { s with heap := h' }) :
    wpAny (model prog w) A
      (call (.builtin "sorted") [.ref l]) Q E s := by
  obtain ⟨ob, ho, hc, nn, hd⟩ := ht
  have hz : vs.toArray.size ≤ sizeLine := by
    rw [List.size_toArray, sizeLine_eq]
    omega
  refine Calls.call_function_entry kind_sorted plain_sorted
    entry_sorted (args_sorted1 _) ?_
  unfold Builtin.«sorted»
  refine wpAny_bind
    (m := checkCount "sorted" 1 1 _) (wpAny_pure ?_)
  refine wpAny_bind ?_
  refine wpAny_collect_seq l (.inr rfl) ho hc hd (fun h1 k1 => ?_) hz
  have e1 : vs.toArray.toList = vs := by simp
  rw [e1]
  refine wpAny_bind (wpAny_newList ?_ (by rw [← List.size_toArray]; exact hz))
  have hoL : (h1.push (seqObj "list" vs.toArray 0)).get? h1.objs.size = some (seqObj "list" vs.toArray 0) := Heap.get?_push_size _ rfl
  refine wpAny_bind
    (wpAny_holding ?_)
  refine wpAny_call_entry slot_list_sort ⟨_, hoL, rfl⟩ entry_list_sort ?_ (args_list_sort _)
  refine list_sort_tree hoL hI h64 fun out ns' a1 a2 a3 => ⟨_, rfl, wpAny_pure ⟨_, rfl, ?_⟩⟩
  obtain ⟨e, he⟩ := sortedHeap_at (out := out) hoL
  refine hq h1 _ out.toList ns' e k1 (fun b ob g1 => ?_) (by rw [Array.toArray_toList]; exact he) a1 a2 a3
  have lt := Heap.lt_size g1
  rw [sortedHeap_old (Nat.ne_of_lt lt) (by rw [Heap.size_push]; exact Nat.lt_succ_of_lt lt)]
  exact Heap.get?_push_of_some _ g1
end
section
variable {X : Cx}
def rSortedTup (K : PySem.W.Frag) : List V → Hp → VK → Prop := fun vs H Q => ∃ (a : Addr) (ns : List Int), vs = [V.ref a] ∧ SqT K H a (ns.map V.int) ∧ ns.length < 64 ∧
  ∀ (ms : List Int) (p : Addr), ms.Perm ns → ms.Pairwise (· ≤ ·) → H p = none →
    Q (.ref p) (upd H p (.lst (ms.map V.int)))
theorem cr_sortedTup : CallR X (.builtin "sorted") (rSortedTup X.K) := by
  intro pins s σ H vs us
  intro Q I r h
  obtain ⟨a, ns, rfl, hs, hfew, q⟩ := h
  obtain ⟨its, rv, ht, hz⟩ := I.tuple hs
  rw [Vals.ref1 r]
  have hi := rv.ints
  refine sorted_tup_ints ht hi (by rw [hi.length]; exact hfew) ?_
  intro h1 h' out ns' e k1 k2 he hI hperm hsrt
  have I1 : Inv X pins σ H { s with heap := h1 } := I.kept (t' := s.toks) k1
  have hlen : (ns'.map V.int).length ≤
      sizeLine := by
    rw [List.length_map, hperm.length_eq]
    exact small64 hfew
  refine ⟨.ref _, upd H h1.objs.size (.lst (ns'.map V.int)), ?_, rfl, q ns' _ hperm hsrt (I1.hok.fresh (Nat.le_refl _))⟩
  exact I1.laid (t' := s.toks) k2 (Nat.le_refl _) ⟨hlen, out, e, vals_of_ints hI, he⟩
end

/-! ### t[::-1], t a tuple -/
section
variable {prog : Program} {w : World} {s : Shared} {A : Around} {E : Value → Shared → Prop}
theorem back_bounds (n : Nat) : Builtin.Slice.sliceAdjust none none (-1) (n : Int) = ((n : Int) - 1, -1) := by
  delta Builtin.Slice.sliceAdjust
  simp
theorem back_places (n : Nat) : Builtin.Slice.slicePlaces ((n : Int) - 1) (-1) (-1) = n := by
  delta Builtin.Slice.slicePlaces
  by_cases c : n = 0
  · subst c; decide
  · rw [if_neg (by decide), if_pos (by omega)]
    have : ((n : Int) - 1 - -1 - 1) / (- -1) = (n : Int) - 1 := by
      rw [show (- -1 : Int) = 1 by decide,
        Int.ediv_one]
      omega
    rw [this]
    omega
theorem fm_congr {α β : Type} {f g : α → Option β} : ∀ {l : List α}, (∀ x ∈ l, f x = g x) → l.filterMap f = l.filterMap g
  | [], _ => rfl
  | x :: r, h => by
    rw [List.filterMap_cons, List.filterMap_cons, h x List.mem_cons_self, fm_congr (l := r) fun y hy => h y (List.mem_cons_of_mem _ hy)]
theorem back_pick (xs : List Value) : ((List.range xs.toArray.size).filterMap fun (k : Nat) => xs.toArray[(((xs.toArray.size : Nat) : Int) - 1 + (k : Int) * -1).toNat]?).toArray = xs.reverse.toArray := by
  congr 1
  have e0 : ∀ k ∈ List.range xs.toArray.size, xs.toArray[(((xs.toArray.size : Nat) : Int) - 1 + (k : Int) * -1).toNat]? = some (xs.reverse.getD k .none) := fun k hk => by
    have hk' : k < xs.length := by simpa using List.mem_range.mp hk
    have e1 : (((xs.toArray.size : Nat) : Int) - 1 + (k : Int) * -1).toNat = xs.length - 1 - k := by
      rw [List.size_toArray]
      omega
    rw [e1, List.getElem?_toArray, List.getD_eq_getElem?_getD, List.getElem?_reverse hk']
    rw [List.getElem?_eq_getElem (by omega)]
    rfl
  have e2 : (List.range xs.toArray.size).filterMap (fun (k : Nat) => xs.toArray[(((xs.toArray.size : Nat) : Int) - 1 + (k : Int) * -1).toNat]?) = (List.range xs.toArray.size).filterMap fun k => some (xs.reverse.getD k .none) :=
    fm_congr e0
  rw [e2]
  apply List.ext_getElem?
  intro i
  rw [show (fun k => some (xs.reverse.getD k Value.none)) = (some ∘ fun k => xs.reverse.getD k Value.none) from rfl, List.filterMap_eq_map]
  rw [List.getElem?_map]
  by_cases c : i < xs.length
  · rw [List.getElem?_range (by simpa using c)]
    show some (xs.reverse.getD i Value.none) = _
    rw [List.getD_eq_getElem?_getD, List.getElem?_eq_getElem (by simpa using c)]
    rfl
  · rw [List.getElem?_eq_none (by simpa using c), List.getElem?_eq_none (by simpa using c)]
    rfl
theorem applied_back {sl : Addr} {vl vu vt : Value} {n : Nat} {Q : Int × Int × Nat → Shared → Prop} (hs : s.heap.IsSliceOf sl vl vu vt) (pl : IsPart vl none) (pu : IsPart vu none) (pt : IsPart vt (some (-1)))
    (h : Q ((n : Int) - 1, -1, n) s) : wpAny (model prog w) A (Builtin.Slice.sliceApplied (.ref sl) (pure (n : Int))) Q E s := by
  obtain ⟨oslice, hos, hcs, hds⟩ := id hs
  unfold Builtin.Slice.sliceApplied
  unfold Builtin.Slice.sliceFields
  refine wpAny_bind
    (wpAny_bind ?_)
  refine wpAny_field hos hds (x := vl) rfl (wpAny_bind ?_)
  refine wpAny_field hos hds (x := vu) rfl (wpAny_bind ?_)
  refine wpAny_field hos hds (x := vt) rfl (wpAny_pure ?_)
  refine wpAny_bind (HT.slicePart_ pt ?_)
  show wpAny _ _ (if ((-1 : Int) == 0) = true then _ else _) _ _ s
  rw [if_neg (by decide)]
  refine wpAny_bind (HT.slicePart_ pl ?_)
  refine wpAny_bind (HT.slicePart_ pu ?_)
  refine wpAny_bind
    (wpAny_pure ?_)
  show wpAny _ _ (match Builtin.Slice.sliceAdjust none none (-1) (n : Int) with | (lo, hi) => pure (lo, (-1 : Int), Builtin.Slice.slicePlaces lo hi (-1))) _ _ s
  rw [back_bounds n]
  show wpAny _ _ (pure ((n : Int) - 1, (-1 : Int), Builtin.Slice.slicePlaces ((n : Int) - 1) (-1) (-1))) _ _ s
  rw [back_places n]
  exact wpAny_pure h
theorem item_tuple_back {t sl : Addr} {vs : List Value} {vl vu vt : Value} {Q : Value → Shared → Prop} (ht : IsTup s.heap t vs.toArray) (hs : s.heap.IsSliceOf sl vl vu vt) (pl : IsPart vl none) (pu : IsPart vu none) (pt : IsPart vt (some (-1)))
    (hz : vs.length ≤ sizeLine) (h : Q (.ref s.heap.objs.size) { s with heap := s.heap.push { cls := .type "tuple", data := .seq vs.reverse.toArray } }) : wpAny (model prog w) A (getItem (.ref t) (.ref sl)) Q E s := by
  have hsz : sizeOk (.seq vs.reverse.toArray) := by
    show vs.reverse.toArray.size ≤ sizeLine
    rw [List.size_toArray, List.length_reverse]
    exact hz
  obtain ⟨oslice, hos, hcs, hds⟩ := id hs
  have hTs : s.TypeIs (.ref sl) "slice" :=
    ⟨oslice, hos, hcs⟩
  unfold getItem
  try
    with_reducible refine wpAny_holding ?_
  first
    | refine wpAny_bind
        (wpAny_pure ?_)
    | skip
  refine wpAny_bind ?_
  refine wpAny_sequenceKey ht.typeIs (by decide) ?_
  refine wpAny_bind ?_
  refine wpAny_callSpecial?_slot (name := Str.ofString "__getitem__") ht.typeIs slot_tuple_getitem ?_
  refine wpAny_call_entry slot_tuple_getitem ht.typeIs entry_tuple_getitem ?_ (args_tuple_getitem _ _)
  show wpAny _ _
    (Builtin.Tuple.tupleItemsOf (.ref t) >>= _) _ _ s
  refine wpAny_bind ?_
  refine tupleItemsOf_ ht ?_
  refine wpAny_bind ?_
  refine wpAny_typeOf hTs ?_
  rw [if_pos (by decide)]
  refine wpAny_bind ?_
  refine applied_back hs pl pu pt ?_
  have hno : ¬ (((((vs.toArray.size : Nat) : Int) - 1 == 0) && ((-1 : Int) == 1) && (vs.toArray.size == vs.toArray.size)) = true) := by
    rw [show ((-1 : Int) == 1) = false from by decide, Bool.and_false, Bool.false_and]
    exact Bool.false_ne_true
  show wpAny _ _ (if ((((vs.toArray.size : Nat) : Int) - 1 == 0) && ((-1 : Int) == 1) && (vs.toArray.size == vs.toArray.size)) = true then _ else _) _ _ s
  rw [if_neg hno, back_pick]
  first
    | exact wpAny_bind (m := Builtin.Tuple.tupleExact _) (wpAny_newObj_type (wpAny_pure ⟨_, rfl, wpAny_pure h⟩) hsz)
    | exact wpAny_bind (m := Builtin.Tuple.tupleExact _) (wpAny_newObj_type (wpAny_bind (wpAny_pure (wpAny_pure ⟨_, rfl, wpAny_pure h⟩))) hsz)
    | exact wpAny_bind (wpAny_bind (m := Builtin.Tuple.tupleExact _) (wpAny_newObj_type (wpAny_pure (wpAny_pure ⟨_, rfl, wpAny_pure h⟩)) hsz))
    | exact wpAny_bind (wpAny_bind (m := Builtin.Tuple.tupleExact _) (wpAny_newObj_type (wpAny_pure ⟨_, rfl, wpAny_pure h⟩) hsz))
end
section
variable {X : Cx}
def tRevT (K : PySem.W.Frag) (te : TE) : TE := fun σ H Q => te σ H fun x H1 => ∃ a xs, x = .ref a ∧ SqT K H1 a xs ∧ ∀ p, H1 p = none → Q (.ref p) (upd H1 p (.tup xs.reverse))
theorem pe_revT {e : Expr} {te : TE} {k : Nat} {p1 p2 p3 pos : Pos} (he : PE X e te) : PE X (.Subscript e (.Slice none none (some (.UnaryOp .USub (.Constant (.int 1) k p1) p2)) p3) pos) (tRevT X.K te) := by
  constructor
  intro pins s σ H Q I h
  refine Subscript_ ?_
  refine thn (he.run pins s σ H _ I h) ?_
  rintro v s1 ⟨x, H1, I1, r1, a, xs, rfl, hx, q⟩
  cases r1
  have hst : PO X (some (.UnaryOp .USub (.Constant (.int 1) k p1) p2)) (tPart (tUn (rU fun i => .int (-i)) (tC (.int 1)))) :=
    po_some (pe_un un_neg pe_int)
  refine wpAny_Slice ?_
  refine thn (po_none.run pins s1 σ H1 (fun o H2 => o = none ∧ H2 = H1) I1 ⟨rfl, rfl⟩) ?_
  rintro vl s2 ⟨l, H2, I2, pl, rfl, rfl⟩
  refine thn (po_none.run pins s2 σ H2 (fun o H3 => o = none ∧ H3 = H2) I2 ⟨rfl, rfl⟩) ?_
  rintro vu s3 ⟨u, H3, I3, pu, rfl, rfl⟩
  refine thn (hst.run pins s3 σ H3 (fun o H4 => o = some (-1) ∧ H4 = H3) I3 ⟨1, rfl, -1, rfl, rfl, rfl⟩) ?_
  rintro vt s4 ⟨o, H4, I4, pt, rfl, rfl⟩
  have I5 : Inv X pins σ H4 { s4 with heap := s4.heap.push { cls := .type "slice", data := .fields #[vl, vu, vt] } } :=
    I4.kept (t' := s4.toks) fun b ob g => Heap.get?_push_of_some _ g
  obtain ⟨its, r, ht, hz⟩ := I5.tuple hx
  have hlen := r.length
  refine tail_any (ops := [.ref a, .ref s4.heap.objs.size]) ht.typeIs PyProof.Rows.slot_tuple_getitem.lookup ?_ (by with_unfolding_all rfl)
  refine item_tuple_back ht (Heap.IsSliceOf.new _ vl vu vt) pl pu pt (by rw [← hlen]; exact hz) ?_
  refine ⟨.ref _, upd H4 _ (.tup xs.reverse), ?_, rfl, q _ I5.fresh⟩
  refine I5.laid (t' := s4.toks) (fun b ob g => Heap.get?_push_of_some _ g) (Nat.le_refl _) ?_
  exact ⟨by rw [List.length_reverse]; exact hz, _, r.reverse, IsTup.new _ _⟩
end
end K17
/-! the frame of the walk: where the defs stand, what a value is, evaluation rules -/
namespace K17
open PySem PySem.Spec PyProof.Rows L2 Evl
/-! ### the text -/
def topS (i : Nat) : Stmt := PySem.Challenge.pw_swapsheets_k17_whole_rows_of_a_told_leng.main.body.getD i (.Pass ⟨0, 0, 0, 0⟩)

/-- a def of the text, where it stands -/
structure DefAt (K : PySem.W.Frag) (mg : Str → Option Value) (x : Str) (st : Stmt) : Prop where
  ex : ∃ (f : Addr) (fd : FuncData), Fun K x x st f fd ∧ mg x = some (.ref f)
/-- a def of the module that keeps a promise -/
structure Has (P : Program) (w : World) (K : PySem.W.Frag) (mg : Str → Option Value) (base : Heap) (k : Nat) (x : Str) (ps : List Str) (sp : Sp) : Prop where
  ex : ∃ (f : Addr) (fd : FuncData), FnOk P w K mg base CX0 k f fd ps sp ∧ mg x = some (.ref f) ∧ PySem.W.keepIn K (.ref f) = true ∧ Binds K fd ps []
abbrev BindsF (x : Str) (st : Stmt) (ps : List Str) : Prop := ∀ (kV doc pm : Value) (an : Option Addr) (cdv ct : Value) (us : List Value), us.length = ps.length →
  bindArgs (PySem.W.fnOf x x (defArgs st) (defBody st) (defScope st) .none kV doc pm an cdv ct) ⟨us, []⟩ = pure (ps.zip us)
section
variable {P : Program} {w : World} {K : PySem.W.Frag} {mg : Str → Option Value} {base : Heap} {x : Str} {st : Stmt} {N ps : List Str} {k : Nat} {sp : Sp}
theorem has_of (D : DefAt K mg x st) (S : FnScope N ps (defScope st)) (hb : BindsF x st ps) (len : ∀ vs H Q E, sp vs H Q E → vs.length = ps.length)
    (body : ∀ (f : Addr) (cdv : Value) (A : Around) (outer : List Env) (s : Shared) (H : Hp) (vs : List V) (Q : VK) (E : XK), Room k (A.deeper (envOfC x (defScope st) s.heap.objs.size f cdv)) → sp vs H Q E →
      ∃ t, PSs (cxOf CX0 P w K mg base N x (defScope st) f cdv A outer s H E).nox (defBody st) t ∧ t { nx := fun _ H' => Q .non H', rt := Q } (start N vs) H) : Has P w K mg base (k + 1) x ps sp := by
  obtain ⟨f, fd, F, g⟩ := D.ex
  exact ⟨f, fd, F.ok S len (body f), g, F.kp, F.binds hb⟩
theorem pe_has {X : Cx} {e : Expr} {es : List Expr} {t : TA} {p pos : Pos} (h : Has X.prog X.w X.K X.mg X.base k x ps sp) (hr : Room k X.A) (hg : Gl X x) (ha : PA X (e :: es) t) (hd : (x == ("__debug__" : Str)) = false := by decide)
    (he : starEach (e :: es) X.env = (false, eval e X.env) :: starEach es X.env := by rfl) (hpl : (backTo pos (starEach es X.env)).any (·.1) = false := by rfl) : PE X (.Call (.Name x p) (e :: es) [] pos) (tCall sp [] E0 t) := by
  obtain ⟨f, fd, F, g, kp, b⟩ := h.ex
  exact pe_call F hr hg g kp b .nil pass0 ha (hdb := hd) (he := he) (hpl := hpl)
end

/-! ### kinds of values, told of a heap that only grows -/
def KindOf (H : Hp) (x : V) (n : String) : Prop :=
  (x = .non ∧ n = "NoneType") ∨ (∃ b, x = .bl b ∧ n = "bool") ∨ (∃ i, x = .int i ∧ n = "int") ∨ (∃ z, x = .str z ∧ n = "str") ∨
  (∃ a xs, x = .ref a ∧ H a = some (.lst xs) ∧ n = "list") ∨ (∃ a xs, x = .ref a ∧ H a = some (.tup xs) ∧ n = "tuple") ∨ (∃ a kvs, x = .ref a ∧ H a = some (.dK kvs) ∧ n = "dict")
theorem KindOf.ex {H H1 : Hp} {x : V} {n : String} (e : Ex H H1) (h : KindOf H x n) : KindOf H1 x n := by
  rcases h with h | h | h | h | ⟨a, xs, h1, h2, h3⟩ | ⟨a, xs, h1, h2, h3⟩ | ⟨a, xs, h1, h2, h3⟩
  · exact .inl h
  · exact .inr (.inl h)
  · exact .inr (.inr (.inl h))
  · exact .inr (.inr (.inr (.inl h)))
  · exact .inr (.inr (.inr (.inr (.inl ⟨a, xs, h1, e a _ h2, h3⟩))))
  · exact .inr (.inr (.inr (.inr (.inr (.inl ⟨a, xs, h1, e a _ h2, h3⟩)))))
  · exact .inr (.inr (.inr (.inr (.inr (.inr ⟨a, xs, h1, e a _ h2, h3⟩)))))
theorem KindOf.ty {K : PySem.W.Frag} {H : Hp} {x : V} {n : String} (h : KindOf H x n) : TyX K H x (.type n) := by
  rcases h with ⟨rfl, rfl⟩ | ⟨b, rfl, rfl⟩ | ⟨i, rfl, rfl⟩ | ⟨z, rfl, rfl⟩ | ⟨a, xs, rfl, h, rfl⟩ | ⟨a, xs, rfl, h, rfl⟩ | ⟨a, xs, rfl, h, rfl⟩
  · exact .base .non
  · exact .base (.bl b)
  · exact .base (.int i)
  · exact .base (.str z)
  · exact .base (.lst h)
  · exact .base (.tup h)
  · exact .base (.dK h)
theorem kind_int (H : Hp) (i : Int) : KindOf H (.int i) "int" := .inr (.inr (.inl ⟨i, rfl, rfl⟩))
theorem kind_bl (H : Hp) (b : Bool) : KindOf H (.bl b) "bool" := .inr (.inl ⟨b, rfl, rfl⟩)
theorem kind_str (H : Hp) (z : Str) : KindOf H (.str z) "str" := .inr (.inr (.inr (.inl ⟨z, rfl, rfl⟩)))
theorem kind_non (H : Hp) : KindOf H .non "NoneType" := .inl ⟨rfl, rfl⟩
theorem kind_tup {H : Hp} {a : Addr} {xs : List V} (h : H a = some (.tup xs)) : KindOf H (.ref a) "tuple" := .inr (.inr (.inr (.inr (.inr (.inl ⟨a, xs, rfl, h, rfl⟩)))))
theorem kind_lst {H : Hp} {a : Addr} {xs : List V} (h : H a = some (.lst xs)) : KindOf H (.ref a) "list" := .inr (.inr (.inr (.inr (.inl ⟨a, xs, rfl, h, rfl⟩))))
theorem kind_dK {H : Hp} {a : Addr} {kvs : List (Key × V)} (h : H a = some (.dK kvs)) : KindOf H (.ref a) "dict" := .inr (.inr (.inr (.inr (.inr (.inr ⟨a, kvs, rfl, h, rfl⟩)))))

section
variable {K : PySem.W.Frag} {σ : L2.St} {H H' : Hp} {ta tb tc td te : TE} {t u : TT} {x y z v : V} {r r1 r2 r3 : R2}
theorem rc_isi {n c : String} {b : Bool} (h : KindOf H x n) (e : kitB n c = some b) : RC (rIsi K) [x, .ty c] H (.bl b) := fun H1 e1 Q q =>
  ⟨x, .ty c, .type n, .type c, b, rfl, .ty c, (h.ex e1).ty, kit_ty e, q H1 (Ex.refl H1)⟩
/-! ### further evaluation rules -/
theorem ev_chain {a b : Bool} (hx : Ev ta σ H x) (hy : Ev tb σ H y) (h1 : RV r1 x y H (.bl a)) (hz : a = true → Ev tc σ H z) (h2 : a = true → RV r2 y z H (.bl b)) : Ev (tChain r1 r2 ta tb tc) σ H (.bl (a && b)) := fun H1 e Q q =>
  hx H1 e _ fun H2 e2 => hy H2 (e.trans e2) _ fun H3 e3 => h1 H3 ((e.trans e2).trans e3) _ fun H4 e4 => ⟨a, rfl, by
    have e14 := (e2.trans e3).trans e4
    cases a with
    | false => exact iteF (q H4 e14)
    | true =>
      refine iteT ?_
      exact hz rfl H4 (e.trans e14) _ fun H5 e5 => h2 rfl H5 ((e.trans e14).trans e5) _ fun H6 e6 => q H6 ((e14.trans e5).trans e6)⟩
theorem ev_links {a b c : Bool} (hx : Ev ta σ H x) (hy : Ev tb σ H y) (h1 : RV r1 x y H (.bl a)) (hz : Ev tc σ H z) (h2 : RV r2 y z H (.bl b)) (hv : Ev td σ H v) (h3 : RV r3 z v H (.bl c)) :
    Ev (tLinks r1 r2 r3 ta tb tc td) σ H (.bl (a && (b && c))) := fun H1 e Q q =>
  hx H1 e _ fun H2 e2 => hy H2 (e.trans e2) _ fun H3 e3 => h1 H3 ((e.trans e2).trans e3) _ fun H4 e4 => ⟨a, rfl, by
    have e14 := (e2.trans e3).trans e4
    cases a with
    | false => exact iteF (q H4 e14)
    | true =>
      refine iteT ?_
      exact hz H4 (e.trans e14) _ fun H5 e5 => h2 H5 ((e.trans e14).trans e5) _ fun H6 e6 => ⟨b, rfl, by
        have e16 := (e14.trans e5).trans e6
        cases b with
        | false => exact iteF (q H6 e16)
        | true =>
          refine iteT ?_
          exact hv H6 (e.trans e16) _ fun H7 e7 => h3 H7 ((e.trans e16).trans e7) _ fun H8 e8 => q H8 ((e16.trans e7).trans e8)⟩⟩
theorem EvU.mono {xs : List V} (e : Ex H H') (h : EvU te σ H xs) : EvU te σ H' xs := fun H1 a Q q => h H1 (e.trans a) Q q
/-- a promise that makes a tuple -/
def SpU (sp : Sp) (vs : List V) (H : Hp) (xs : List V) : Prop := ∀ H1, Ex H H1 → ∀ Q : VK, (∀ p H2, H1 p = none → Ex H1 H2 → H2 p = some (.tup xs) → Q (.ref p) H2) → ∀ E : XK, sp vs H1 Q E
theorem eu_call {sp : Sp} {dvs vs xs : List V} {E : XK} {ta : TA} (h : EvA ta σ H vs) (hs : SpU sp (vs ++ dvs) H xs) : EvU (tCall sp dvs E ta) σ H xs := fun H1 e Q q =>
  h H1 e _ fun H2 e2 => hs H2 (e.trans e2) Q (fun p H3 np e3 at3 =>
    q p H3 (fresh_back e2 np) (e2.trans e3) at3) E
def RetU (xs : List V) (H : Hp) (Q : VK) : Prop := ∀ p H2, H p = none → Ex H H2 → H2 p = some (.tup xs) → Q (.ref p) H2
/-- len of a tuple; tuple of a list that was just made; all of one -/
theorem rc_lenT {p : Addr} {xs : List V} (h : H p = some (.tup xs)) : RC (rLenS K) [.ref p] H (.int (xs.length : Int)) := fun H1 e Q q =>
  ⟨p, xs, rfl, .inr (st_of (e p _ h)), q H1 (Ex.refl H1)⟩
theorem rc_lenL {p : Addr} {xs : List V} (h : H p = some (.lst xs)) : RC (rLenS K) [.ref p] H (.int (xs.length : Int)) := fun H1 e Q q =>
  ⟨p, xs, rfl, .inl (sq_of (e p _ h)), q H1 (Ex.refl H1)⟩
theorem eu_tupOfL {xs : List V} (h : EvL ta σ H xs) : EvU (tThen ta (kTup K)) σ H xs := fun H1 e Q q =>
  h H1 e _ fun p H2 _ e2 hp => .inl ⟨p, xs, rfl, sq_of hp, fun l hl => q l _ (fresh_back e2 hl) (e2.trans (Ex.new hl)) upd_same⟩
theorem ev_allL {bs : List Bool} (h : EvL ta σ H (bs.map V.bl)) : Ev (tCB (rAll K) (tCons ta tNil)) σ H (.bl (bs.all id)) := fun H1 e Q q =>
  h H1 e _ fun p H2 _ e2 hp => ⟨p, bs, rfl, sq_of hp, q H2 e2⟩
/-- a comprehension over a tuple, without ifs -/
theorem given_all {n : Nat} {f : Nat → V} : given n (fun _ => true) f = (List.range n).map f := by
  unfold given
  rw [List.filter_eq_self.mpr
    (fun _ _ => rfl)]
theorem el_lcT {a : Addr} {xs : List V} {tl : TE} {j : Nat} {vs : List Nat} (v : Nat → V) (h : Ev tl σ H (.ref a)) (hx : SqT K H a xs) (hz : xs.length ≤ 40000) (hw : ∀ x, wipe ((wipe σ vs).set j (some x)) vs = wipe σ vs)
    (he : ∀ (i : Nat) (x : V) H1, Ex H H1 → xs[i]? = some x → Ev te ((wipe σ vs).set j (some x)) H1 (v i)) :
    EvL (tLc (iTup K tl) (gName j) tYes te vs) σ H ((List.range xs.length).map v) := fun H0 e Q q => h H0 e _ fun H1 e1 => ⟨a, rfl, ⟨xs, ex_t (e.trans e1) hx⟩, fun Dl hD =>
  lc_tup (xs := xs) (Cw H1 (fun _ => true) v Dl) ⟨hD, Ex.new hD, upd_same⟩ (fun i H' _ p => ex_t ((e.trans e1).trans p.2.1) hx)
    (fun i x H' hi p => ⟨hw x, cw_turn p (by have := (List.getElem?_eq_some_iff.mp hi).1; omega) (fun H2 _ Q' q' => q' H2 (Ex.refl H2)) (fun _ => he i x H1 (e.trans e1) hi)⟩)
    (fun H' p => q Dl H' (fresh_back e1 p.1) (e1.trans p.2.1) (by have := p.2.2; rw [given_all] at this; exact this))⟩
end
theorem map_range_get {α : Type} {xs : List V} {f : V → α} {g : Nat → α} (h : ∀ i x, xs[i]? = some x → g i = f x) : (List.range xs.length).map g = xs.map f := by
  apply List.ext_getElem?
  intro i
  rw [List.getElem?_map,
    List.getElem?_map]
  by_cases c : i < xs.length
  · rw [List.getElem?_range c, List.getElem?_eq_getElem c]
    exact congrArg some (h i _ (List.getElem?_eq_getElem c))
  · rw [List.getElem?_eq_none (by simpa using c), List.getElem?_eq_none (by simpa using c)]
    rfl
end K17
/-! the walk, first part: numbers -/
namespace K17
open PySem PySem.Spec PyProof.Rows L2 Evl
section
variable {P : Program} {w : World} {base : Heap} {K : PySem.W.Frag} {mg : Str → Option Value}
/-! ### is_whole -/
abbrev sWhole : Stmt := topS 6
theorem scWhole : FnScope ["value"] ["value"] (defScope sWhole) := ⟨rfl, rfl, rfl, by decide +kernel, rfl, by decide +kernel, by decide +kernel⟩
/-- what stands in tuples that are judged -/
def Atm : V → Prop
  | .int _ => True
  | .bl _ => True
  | .str _ => True
  | _ => False
theorem Atm.cases {x : V} (h : Atm x) : (∃ i, x = .int i) ∨ (∃ b, x = .bl b) ∨ ∃ z, x = .str z := by
  cases x <;> first | exact .inl ⟨_, rfl⟩ | exact .inr (.inl ⟨_, rfl⟩) | exact .inr (.inr ⟨_, rfl⟩) | exact False.elim h
def wholeV : V → Bool
  | .int _ => true
  | _ => false
def spWhole : Sp := fun vs H Q _ => ∃ x, vs = [x] ∧ Atm x ∧ RetV (.bl (wholeV x)) H Q
theorem ok_whole (D : DefAt K mg "is_whole" sWhole) (mi : mg "isinstance" = none) (mt : mg "int" = none) (mb : mg "bool" = none) : Has P w K mg base 1 "is_whole" ["value"] spWhole := by
  refine has_of D scWhole (fun _ _ _ _ _ _ us hl => match us, hl with | [_], _ => rfl) ?_ ?_
  · rintro vs H Q E ⟨x, rfl, _⟩
    rfl
  rintro f cdv A outer s H vs Q E hr ⟨x, rfl, hx, q⟩
  refine ⟨_, pss_one (ps_ret (pe_and
    (pe_callB call_isi (by rfl) mi boot_isinstance (pa_cons (pv 0) (pa_cons (pe_bltn (v := .ty "int") (by rfl) mt boot_int rfl) pa_nil)))
    (pe_one (pe_not (pe_callB call_isi (by rfl) mi boot_isinstance (pa_cons (pv 0) (pa_cons (pe_bltn (v := .ty "bool") (by rfl) mb boot_bool rfl) pa_nil))))))), ?_⟩
  rcases hx.cases with ⟨i, rfl⟩ | ⟨b, rfl⟩ | ⟨z, rfl⟩
  · refine s_ret (v := .bl true) (ev_is (ev_andV (a := true) (b := !false) (ev_cb (ea_cons (ev_var rfl) (ea_cons ev_c ea_nil)) (rc_isi (kind_int H i) (by decide +kernel)))
      (fun _ => ev_notV (ev_cb (ea_cons (ev_var rfl) (ea_cons ev_c ea_nil)) (rc_isi (kind_int H i) (by decide +kernel))))) rfl) q
  · refine s_ret (v := .bl false) (ev_is (ev_andV (a := true) (b := !true) (ev_cb (ea_cons (ev_var rfl) (ea_cons ev_c ea_nil)) (rc_isi (kind_bl H b) (by decide +kernel)))
      (fun _ => ev_notV (ev_cb (ea_cons (ev_var rfl) (ea_cons ev_c ea_nil)) (rc_isi (kind_bl H b) (by decide +kernel))))) rfl) q
  · refine s_ret (v := .bl false) (ev_is (ev_andV (a := false) (b := !false) (ev_cb (ea_cons (ev_var rfl) (ea_cons ev_c ea_nil)) (rc_isi (kind_str H z) (by decide +kernel)))
      (fun _ => ev_notV (ev_cb (ea_cons (ev_var rfl) (ea_cons ev_c ea_nil)) (rc_isi (kind_str H z) (by decide +kernel))))) rfl) q

/-! ### is_integer -/
abbrev sInteger : Stmt := topS 7
theorem scInteger : FnScope ["value"] ["value"] (defScope sInteger) := ⟨rfl, rfl, rfl, by decide +kernel, rfl, by decide +kernel, by decide +kernel⟩
def big : Int := 10 ^ 60
def integerV : V → Bool
  | .int i => decide (-big < i) && decide (i < big)
  | _ => false
def spInteger : Sp := fun vs H Q _ => ∃ x, vs = [x] ∧ Atm x ∧ RetV (.bl (integerV x)) H Q
theorem ok_integer (D : DefAt K mg "is_integer" sInteger) (W : Has P w K mg base 1 "is_whole" ["value"] spWhole) (gB : ∃ t, mg "BOUND" = some (.int big t)) : Has P w K mg base 2 "is_integer" ["value"] spInteger := by
  obtain ⟨tB, gB⟩ := gB
  refine has_of D scInteger (fun _ _ _ _ _ _ us hl => match us, hl with | [_], _ => rfl) ?_ ?_
  · rintro vs H Q E ⟨x, rfl, _⟩
    rfl
  rintro f cdv A outer s H vs Q E hr ⟨x, rfl, hx, q⟩
  refine ⟨_, pss_one (ps_ret (pe_and (pe_has W hr (by rfl) (pa_cons (pv 0) pa_nil))
    (pe_one (pe_chain op_lt op_lt (pe_un un_neg (pe_glob (v := .int big) (by rfl) gB ⟨_, rfl⟩)) (pv 0) (pe_glob (v := .int big) (by rfl) gB ⟨_, rfl⟩))))), ?_⟩
  have hw : SpV spWhole [x] H (.bl (wholeV x)) := fun H1 e1 Q1 q1 E1 => ⟨x, rfl, hx, q1⟩
  rcases hx.cases with ⟨i, rfl⟩ | ⟨b, rfl⟩ | ⟨z, rfl⟩
  · refine s_ret (v := .bl (integerV (.int i))) (ev_is (ev_andV (ev_call (ea_cons (ev_var rfl) ea_nil) hw)
      (fun _ => ev_chain (ev_un (ev_c (v := .int big)) ru_neg) (ev_var (v := .int i) rfl) rv_I0 (fun _ => ev_c (v := .int big)) (fun _ => rv_I0))) (by rfl)) q
  · refine s_ret (v := .bl false) (ev_is (ev_andV (b := false) (ev_call (ea_cons (ev_var rfl) ea_nil) hw) (fun h => nomatch h)) (by rfl)) q
  · refine s_ret (v := .bl false) (ev_is (ev_andV (b := false) (ev_call (ea_cons (ev_var rfl) ea_nil) hw) (fun h => nomatch h)) (by rfl)) q

/-! ### is_within, require_within -/
abbrev sWithin : Stmt := topS 8
theorem scWithin : FnScope ["value", "least", "most"] ["value", "least", "most"] (defScope sWithin) := ⟨rfl, rfl, rfl, by decide +kernel, rfl, by decide +kernel, by decide +kernel⟩
def spWithin : Sp := fun vs H Q _ => ∃ i lo hi : Int, vs = [.int i, .int lo, .int hi] ∧ lo ≤ i ∧ i ≤ hi ∧ -big < i ∧ i < big ∧ RetV (.bl true) H Q
theorem ok_within (D : DefAt K mg "is_within" sWithin) (I : Has P w K mg base 2 "is_integer" ["value"] spInteger) : Has P w K mg base 3 "is_within" ["value", "least", "most"] spWithin := by
  refine has_of D scWithin (fun _ _ _ _ _ _ us hl => match us, hl with | [_, _, _], _ => rfl) ?_ ?_
  · rintro vs H Q E ⟨i, lo, hi, rfl, _⟩
    rfl
  rintro f cdv A outer s H vs Q E hr ⟨i, lo, hi, rfl, h1, h2, h3, h4, q⟩
  refine ⟨_, pss_one (ps_ret (pe_and (pe_has I hr (by rfl) (pa_cons (pv 0) pa_nil)) (pe_one (pe_chain op_le op_le (pv 1) (pv 0) (pv 2))))), ?_⟩
  have hw : SpV spInteger [.int i] H (.bl (integerV (.int i))) := fun H1 e1 Q1 q1 E1 => ⟨_, rfl, trivial, q1⟩
  refine s_ret (v := .bl true) (ev_is (ev_andV (ev_call (ea_cons (ev_var rfl) ea_nil) hw)
    (fun _ => ev_chain (ev_var (v := .int lo) rfl) (ev_var (v := .int i) rfl) rv_I0 (fun _ => ev_var (v := .int hi) rfl) (fun _ => rv_I0))) ?_) q
  show V.bl ((decide (-big < i) && decide (i < big)) && (decide (lo ≤ i) && decide (i ≤ hi))) = V.bl true
  rw [decide_eq_true h1, decide_eq_true h2, decide_eq_true h3, decide_eq_true h4]
  rfl
abbrev sReqWithin : Stmt := topS 9
theorem scReqWithin : FnScope ["value", "least", "most"] ["value", "least", "most"] (defScope sReqWithin) := ⟨rfl, rfl, rfl, by decide +kernel, rfl, by decide +kernel, by decide +kernel⟩
def spReqWithin : Sp := fun vs H Q _ => ∃ i lo hi : Int, vs = [.int i, .int lo, .int hi] ∧ lo ≤ i ∧ i ≤ hi ∧ -big < i ∧ i < big ∧ RetV .non H Q
theorem ok_reqWithin (D : DefAt K mg "require_within" sReqWithin) (I : Has P w K mg base 3 "is_within" ["value", "least", "most"] spWithin) : Has P w K mg base 4 "require_within" ["value", "least", "most"] spReqWithin := by
  refine has_of D scReqWithin (fun _ _ _ _ _ _ us hl => match us, hl with | [_, _, _], _ => rfl) ?_ ?_
  · rintro vs H Q E ⟨i, lo, hi, rfl, _⟩
    rfl
  rintro f cdv A outer s H vs Q E hr ⟨i, lo, hi, rfl, h1, h2, h3, h4, q⟩
  refine ⟨_, pss_one (ps_if (pt_not (pt_val (pe_has I hr (by rfl) (pa_cons (pv 0) (pa_cons (pv 1) (pa_cons (pv 2) pa_nil)))))) pss_never pss_nil), ?_⟩
  have hw : SpV spWithin [.int i, .int lo, .int hi] H (.bl true) := fun H1 e1 Q1 q1 E1 => ⟨i, lo, hi, rfl, h1, h2, h3, h4, q1⟩
  refine s_when (et_not (et_B (ev_call (ea_cons (ev_var rfl) (ea_cons (ev_var rfl) (ea_cons (ev_var rfl) ea_nil))) hw))) (fun h => nomatch h) (fun _ H1 e1 => q H1 e1)
end
end K17
/-! the walk, second part: moves and rows -/
namespace K17
open PySem PySem.Spec PyProof.Rows L2 Evl
/-! ### data: tuples stand for ever -/
def TEx (H H' : Hp) : Prop := ∀ a xs, H a = some (.tup xs) → H' a = some (.tup xs)
theorem TEx.of {H H' : Hp} (e : Ex H H') : TEx H H' := fun a xs h => e a _ h
theorem TEx.refl (H : Hp) : TEx H H := fun _ _ h => h
theorem TEx.trans {H H1 H2 : Hp} (a : TEx H H1) (b : TEx H1 H2) : TEx H H2 := fun x o h => b x o (a x o h)
theorem TEx.lst {H : Hp} {l : Addr} {xs : List V} {o : HO} (h : H l = some (.lst xs)) : TEx H (upd H l o) := fun a ys e => by
  rw [upd_ne (fun c => by rw [c, h] at e; cases e)]
  exact e
def IntsAt (H : Hp) (a : Addr) (ns : List Int) : Prop := H a = some (.tup (ns.map V.int))
theorem IntsAt.ex {H H' : Hp} {a : Addr} {ns : List Int} (e : TEx H H') (h : IntsAt H a ns) : IntsAt H' a ns := e _ _ h
def SwAt (H : Hp) (a : Addr) (s : Int × Int) : Prop := H a = some (.tup [.int s.1, .int s.2])
def SwsAt (H : Hp) (as : List Addr) (ss : List (Int × Int)) : Prop := Paired (SwAt H) as ss
theorem SwsAt.ex {H H' : Hp} {as : List Addr} {ss : List (Int × Int)} (e : TEx H H') (h : SwsAt H as ss) : SwsAt H' as ss := Paired.mapP h fun _ _ z => e _ _ z
def RowAt (H : Hp) (a : Addr) (ss : List (Int × Int)) : Prop := ∃ as : List Addr, H a = some (.tup (as.map V.ref)) ∧ SwsAt H as ss
theorem RowAt.ex {H H' : Hp} {a : Addr} {ss : List (Int × Int)} (e : TEx H H') (h : RowAt H a ss) : RowAt H' a ss := by
  obtain ⟨as, h1, h2⟩ := h
  exact ⟨as, e _ _ h1, h2.ex e⟩
theorem pr_get {α β : Type} {F : α → β → Prop} : ∀ {xs : List α} {ys : List β} {i : Nat} {x : α}, Paired F xs ys → xs[i]? = some x → ∃ y, ys[i]? = some y ∧ F x y
  | _, _, _, _, .nil, h => nomatch (show (none : Option _) = some _ from h)
  | _, _, 0, _, .cons f _, h => by
    cases Option.some.inj h
    exact ⟨_, rfl, f⟩
  | _, _, i + 1, _, .cons _ t, h => pr_get (i := i) t h
theorem pr_app {α β : Type} {F : α → β → Prop} : ∀ {xs : List α} {ys : List β} {x : α} {y : β}, Paired F xs ys → F x y → Paired F (xs ++ [x]) (ys ++ [y])
  | _, _, _, _, .nil, fxy => .cons fxy .nil
  | _, _, _, _, .cons f t, h => .cons f (pr_app t h)
theorem pr_append {α β : Type} {F : α → β → Prop} : ∀ {xs xs' : List α} {ys ys' : List β}, Paired F xs ys → Paired F xs' ys' → Paired F (xs ++ xs') (ys ++ ys')
  | _, _, _, _, .nil, h => h
  | _, _, _, _, .cons f t, h => .cons f (pr_append t h)
theorem pr_reverse {α β : Type} {F : α → β → Prop} : ∀ {xs : List α} {ys : List β}, Paired F xs ys → Paired F xs.reverse ys.reverse
  | _, _, .nil => .nil
  | _, _, .cons f t => by
    rw [List.reverse_cons,
      List.reverse_cons]
    exact pr_app (pr_reverse t) f
theorem take_succ_fold {α β : Type} (g : β → α → β) (b : β) {xs : List α} {i : Nat} {x : α} (h : xs[i]? = some x) : (xs.take (i + 1)).foldl g b = g ((xs.take i).foldl g b) x := by
  rw [List.take_add_one,
    h, List.foldl_append]
  rfl

theorem rgV_rng (n : Nat) : rgV 0 (n : Int) = (rng n).map V.int := by
  unfold rgV rng
  rw [List.map_map, show ((n : Int) - 0).toNat = n by omega]
  refine List.map_congr_left
    fun i _ => ?_
  show V.int (0 + (i : Int)) = V.int (i : Int)
  rw [Int.zero_add]
theorem small100000 {n : Nat} (h : n ≤ 1000) : n ≤ 100000 := by omega
section
variable {P : Program} {w : World} {base : Heap} {K : PySem.W.Frag} {mg : Str → Option Value}
/-! ### idle_in -/
theorem eu_idle {σ : L2.St} {H : Hp} {te : TE} {n : Nat} (h : Ev te σ H (.int n)) (hn : n ≤ 1000) : EvU (tTupRg (tRg1 te)) σ H ((rng n).map V.int) := fun H1 e Q q =>
  h H1 e _ fun H2 e2 => ⟨n, rfl, RgOk.of_le (by decide) (by omega) (by decide) (by omega), fun p hp => q p _ (fresh_back e2 hp) (e2.trans (Ex.new hp)) (by rw [upd_same, rgV_rng])⟩
theorem el_idle {σ : L2.St} {H : Hp} {te : TE} {n : Nat} (h : Ev te σ H (.int n)) (hn : n ≤ 1000) : EvL (tLstRg (tRg1 te)) σ H ((rng n).map V.int) := fun H1 e Q q =>
  h H1 e _ fun H2 e2 => ⟨n, rfl, RgOk.of_le (by decide) (by omega) (by decide) (by omega), fun p hp => q p _ (fresh_back e2 hp) (e2.trans (Ex.new hp)) (by rw [upd_same, rgV_rng])⟩
abbrev sIdle : Stmt := topS 13
theorem scIdle : FnScope ["size"] ["size"] (defScope sIdle) := ⟨rfl, rfl, rfl, by decide +kernel, rfl, by decide +kernel, by decide +kernel⟩
def spIdle : Sp := fun vs H Q _ => ∃ n : Nat, vs = [.int n] ∧ n ≤ 1000 ∧ RetU ((rng n).map V.int) H Q
theorem ok_idle (D : DefAt K mg "idle_in" sIdle) (mt : mg "tuple" = none) (mr : mg "range" = none) : Has P w K mg base 1 "idle_in" ["size"] spIdle := by
  refine has_of D scIdle (fun _ _ _ _ _ _ us hl => match us, hl with | [_], _ => rfl) ?_ ?_
  · rintro vs H Q E ⟨x, rfl, _⟩
    rfl
  rintro f cdv A outer s H vs Q E hr ⟨n, rfl, hn, q⟩
  refine ⟨_, pss_one (ps_ret (pe_tupRg rfl (by rfl) mt (prg_1 (by rfl) mr (pv 0)))), ?_⟩
  exact s_retU (eu_idle (ev_var rfl) hn) q

/-! ### swapped_in, and the law's own -/
def spSwapped : Sp := fun vs H Q _ => ∃ (m sw : Addr) (ms : List Int) (s : Int × Int), vs = [.ref m, .ref sw] ∧ IntsAt H m ms ∧ SwAt H sw s ∧ ms.length ≤ 1000 ∧ RetU ((swapL s.1 s.2 ms).map V.int) H Q
/-- the values of the comprehension, one by one -/
theorem swapped_vals (a b : Int) (ms : List Int) : (List.range (ms.map V.int).length).map (fun i => V.int (tau a b (ms.getD i 0))) = (swapL a b ms).map V.int := by
  rw [map_range_get (f := fun x => match x with | .int z => V.int (tau a b z) | _ => V.non)]
  · unfold swapL
    rw [List.map_map, List.map_map] <;> rfl
  · intro i x h
    rw [List.getElem?_map] at h
    cases e : ms[i]? with
    | none =>
      rw [e] at h
      cases h
    | some z =>
      rw [e] at h
      cases Option.some.inj h
      rw [List.getD_eq_getElem?_getD, e] <;> rfl
theorem ints_get {ms : List Int} {i : Nat} {x : V} (h : (ms.map V.int)[i]? = some x) : x = .int (ms.getD i 0) := by
  rw [List.getElem?_map] at h
  cases e : ms[i]? with
  | none =>
    rw [e] at h
    cases h
  | some z =>
    rw [e] at h
    cases Option.some.inj h
    rw [List.getD_eq_getElem?_getD, e] <;> rfl
theorem ev_tau {σ : L2.St} {H : Hp} {tx ta tb : TE} {x a b : Int} (hx : Ev tx σ H (.int x)) (ha : Ev ta σ H (.int a)) (hb : Ev tb σ H (.int b)) :
    Ev (tIf (tTest (tOp rEq tx ta)) tb (tIf (tTest (tOp rEq tx tb)) ta tx)) σ H (.int (tau a b x)) := by
  refine ev_if (b := decide (V.int x = V.int a)) (et_test (ev_op hx ha (rv_eq rfl))) (fun h => ?_) (fun h => ?_)
  · have e : x = a := V.int.inj (of_decide_eq_true h)
    unfold tau
    rw [if_pos e]
    exact hb
  · have e : x ≠ a := fun z => of_decide_eq_false h (by rw [z])
    refine ev_if (b := decide (V.int x = V.int b)) (et_test (ev_op hx hb (rv_eq rfl))) (fun h2 => ?_) (fun h2 => ?_)
    · have e2 : x = b := V.int.inj (of_decide_eq_true h2)
      unfold tau
      rw [if_neg e, if_pos e2]
      exact ha
    · have e2 : x ≠ b := fun z => of_decide_eq_false h2 (by rw [z])
      unfold tau
      rw [if_neg e, if_neg e2]
      exact hx
abbrev sSwapped : Stmt := topS 14
abbrev nSwapped : List Str := ["move", "swap", "low", "high", "goal"]
theorem scSwapped : FnScope nSwapped ["move", "swap"] (defScope sSwapped) := ⟨rfl, rfl, rfl, by decide +kernel, rfl, by decide +kernel, by decide +kernel⟩
theorem ok_swapped (D : DefAt K mg "swapped_in" sSwapped) (mt : mg "tuple" = none) : Has P w K mg base 1 "swapped_in" ["move", "swap"] spSwapped := by
  refine has_of D scSwapped (fun _ _ _ _ _ _ us hl => match us, hl with | [_, _], _ => rfl) ?_ ?_
  · rintro vs H Q E ⟨_, _, _, _, rfl, _⟩
    rfl
  rintro f cdv A outer s H vs Q E hr ⟨m, sw, ms, ab, rfl, hm, hs, hz, q⟩
  refine ⟨_, pss_cons (ps_asg (pv 1) (pg_tup rfl (pgs_cons (pg_name (i := 2) scSwapped.nd rfl (.inr rfl)) (pgs_cons (pg_name (i := 3) scSwapped.nd rfl (.inr rfl)) pgs_nil))))
    (pss_one (ps_ret (pe_tupleOf (by rfl) mt (pe_lc (own := [("goal", 4)]) (g := gName 4) (tt := tYes) rfl scSwapped.nd (pi_tup (pv 0))
      (blkOk_by (own := [("goal", 4)]) (N := nSwapped) (sc := defScope sSwapped) (by decide +kernel))
      (fun _ _ _ _ _ => pg_name (i := 4) scSwapped.nd rfl (.inl rfl)) (fun _ _ _ _ _ => pts_nil)
      (fun _ _ _ _ _ => pe_ifExp (pt_cmpR op_eq (pv 4) (pv 2) (nomark _)) (pv 3) (pe_ifExp (pt_cmpR op_eq (pv 4) (pv 3) (nomark _)) (pv 2) (pv 4))))))), ?_⟩
  refine ⟨_, rfl, sw, [.int ab.1, .int ab.2], rfl, st_of hs, rfl, _, _, rfl, _, _, rfl, rfl, ?_⟩
  dsimp only
  refine s_retU (xs := (swapL ab.1 ab.2 ms).map V.int) (eu_tupOfL ?_) q
  rw [← swapped_vals]
  refine el_lcT _ (ev_var rfl) (st_of hm) (by rw [List.length_map]; omega) (fun _ => rfl) fun i x H1 e1 hx => ?_
  rw [ints_get hx]
  exact ev_tau (ev_var rfl) (ev_var rfl) (ev_var rfl)
abbrev sLswapped : Stmt := topS 29
abbrev nLswapped : List Str := ["_law_move", "_law_swap", "_law_low", "_law_high", "_law_place"]
theorem scLswapped : FnScope nLswapped ["_law_move", "_law_swap"] (defScope sLswapped) := ⟨rfl, rfl, rfl, by decide +kernel, rfl, by decide +kernel, by decide +kernel⟩
theorem ok_lswapped (D : DefAt K mg "_law_swapped" sLswapped) (mt : mg "tuple" = none) : Has P w K mg base 1 "_law_swapped" ["_law_move", "_law_swap"] spSwapped := by
  refine has_of D scLswapped (fun _ _ _ _ _ _ us hl => match us, hl with | [_, _], _ => rfl) ?_ ?_
  · rintro vs H Q E ⟨_, _, _, _, rfl, _⟩
    rfl
  rintro f cdv A outer s H vs Q E hr ⟨m, sw, ms, ab, rfl, hm, hs, hz, q⟩
  refine ⟨_, pss_cons (ps_asg (pv 1) (pg_tup rfl (pgs_cons (pg_name (i := 2) scLswapped.nd rfl (.inr rfl)) (pgs_cons (pg_name (i := 3) scLswapped.nd rfl (.inr rfl)) pgs_nil))))
    (pss_one (ps_ret (pe_tupleOf (by rfl) mt (pe_lc (own := [("_law_place", 4)]) (g := gName 4) (tt := tYes) rfl scLswapped.nd (pi_tup (pv 0))
      (blkOk_by (own := [("_law_place", 4)]) (N := nLswapped) (sc := defScope sLswapped) (by decide +kernel))
      (fun _ _ _ _ _ => pg_name (i := 4) scLswapped.nd rfl (.inl rfl)) (fun _ _ _ _ _ => pts_nil)
      (fun _ _ _ _ _ => pe_ifExp (pt_cmpR op_eq (pv 4) (pv 2) (nomark _)) (pv 3) (pe_ifExp (pt_cmpR op_eq (pv 4) (pv 3) (nomark _)) (pv 2) (pv 4))))))), ?_⟩
  refine ⟨_, rfl, sw, [.int ab.1, .int ab.2], rfl, st_of hs, rfl, _, _, rfl, _, _, rfl, rfl, ?_⟩
  dsimp only
  refine s_retU (xs := (swapL ab.1 ab.2 ms).map V.int) (eu_tupOfL ?_) q
  rw [← swapped_vals]
  refine el_lcT _ (ev_var rfl) (st_of hm) (by rw [List.length_map]; omega) (fun _ => rfl) fun i x H1 e1 hx => ?_
  rw [ints_get hx]
  exact ev_tau (ev_var rfl) (ev_var rfl) (ev_var rfl)

/-! ### product_in, and the law's own -/
def spProduct : Sp := fun vs H Q _ => ∃ (n : Nat) (r : Addr) (ss : List (Int × Int)), vs = [.int n, .ref r] ∧ RowAt H r ss ∧ n ≤ 1000 ∧ RetU ((prodL n ss).map V.int) H Q
/-- between the turns -/
def ProdIn (H : Hp) (n : Nat) (r : Addr) (ss : List (Int × Int)) (i : Nat) (σ' : L2.St) (H' : Hp) : Prop :=
  ∃ y3 p, σ' = [some (.int n), some (.ref r), some (.ref p), y3] ∧ H p = none ∧ Ex H H' ∧ IntsAt H' p (prodFrom (rng n) (ss.take i))
abbrev sProduct : Stmt := topS 15
theorem scProduct : FnScope ["size", "row", "found", "swap"] ["size", "row"] (defScope sProduct) := ⟨rfl, rfl, rfl, by decide +kernel, rfl, by decide +kernel, by decide +kernel⟩
theorem prod_turn {H H' : Hp} {n i : Nat} {r : Addr} {ss : List (Int × Int)} {as : List Addr} {x : V} {σ' : L2.St} {tb : TS} {D : Ends} (hsp : ∀ (σ : L2.St) (H1 : Hp) (D1 : Ends), tb D1 σ H1 = tAsg (tCall spSwapped [] E0 (tCons (tVar 2) (tCons (tVar 3) tNil))) (gName 2) D1 σ H1)
    (hx : (as.map V.ref)[i]? = some x) (ha : SwsAt H as ss) (hn : n ≤ 1000) (h : ProdIn H n r ss i σ' H') (hD : ∀ σ2 H2, ProdIn H n r ss (i + 1) σ2 H2 → D.nx σ2 H2) : tb D (σ'.set 3 (some x)) H' := by
  obtain ⟨y3, p, rfl, hp, e, hI⟩ := h
  rw [hsp]
  rw [List.getElem?_map] at hx
  cases ea : as[i]? with
  | none => rw [ea] at hx; cases hx
  | some a =>
    rw [ea] at hx
    cases Option.some.inj hx
    obtain ⟨sp, es, hs⟩ := pr_get ha ea
    refine s_asgU (xs := (prodFrom (rng n) (ss.take (i + 1))).map V.int) (eu_call (ea_cons (ev_var (v := .ref p) rfl) (ea_cons (ev_var (v := .ref a) rfl) ea_nil)) ?_) ?_
    · intro H1 e1 Q1 q1 E1
      refine ⟨p, a, _, sp, rfl, hI.ex (TEx.of e1), (e.trans e1) _ _ hs, by rw [prodFrom_len, rng_len]; exact hn, ?_⟩
      have q2 : prodFrom (rng n) (ss.take (i + 1)) = swapL sp.1 sp.2 (prodFrom (rng n) (ss.take i)) := take_succ_fold _ _ es
      rw [q2] at q1
      exact q1
    · intro p2 H1 hp2 e1 h2
      exact hD _ _ ⟨some (.ref a), p2, rfl, fresh_back e hp2, e.trans e1, h2⟩
theorem ok_product (D : DefAt K mg "product_in" sProduct) (I : Has P w K mg base 1 "idle_in" ["size"] spIdle) (S : Has P w K mg base 1 "swapped_in" ["move", "swap"] spSwapped) : Has P w K mg base 2 "product_in" ["size", "row"] spProduct := by
  refine has_of D scProduct (fun _ _ _ _ _ _ us hl => match us, hl with | [_, _], _ => rfl) ?_ ?_
  · rintro vs H Q E ⟨_, _, _, rfl, _⟩
    rfl
  rintro f cdv A outer s H vs Q E hr ⟨n, r, ss, rfl, ⟨as, hR, hS⟩, hn, q⟩
  refine ⟨_, pss_cons (ps_set (i := 2) scProduct.nd rfl (.inl rfl) (pe_has I hr (by rfl) (pa_cons (pv 0) pa_nil)))
    (pss_cons (ps_for PassesOwn.never rfl (pi_tup (pv 1)) (pg_name (i := 3) scProduct.nd rfl (.inl rfl)) (pss_one (ps_set (i := 2) scProduct.nd rfl (.inl rfl) (pe_has S hr (by rfl) (pa_cons (pv 2) (pa_cons (pv 3) pa_nil))))))
    (pss_one (ps_ret (pv 2)))), ?_⟩
  refine q_asgU (xs := (rng n).map V.int) (eu_call (ea_cons (ev_var rfl) ea_nil) (fun H1 e1 Q1 q1 E1 => ⟨n, rfl, hn, q1⟩)) fun p H1 hp e1 h1 => ?_
  refine q_forT (ev_var rfl) (st_of (e1 _ _ hR)) (ProdIn H n r ss) (fun H2 e2 => ⟨none, p, rfl, hp, e1.trans e2, e2 _ _ h1⟩) ?_ ?_ ?_
  · rintro i σ' H' _ ⟨y3, p', rfl, hp', e', hI⟩
    exact st_of (e' _ _ hR)
  · intro i x σ' H' hx h
    exact prod_turn (fun _ _ _ => rfl) hx hS hn h (fun _ _ z => z)
  · rintro σ' H' ⟨y3, p', rfl, hp', e', hI⟩
    refine ⟨_, rfl, q p' H' hp' e' ?_⟩
    have l1 : ss.take (as.map V.ref).length = ss := by
      rw [List.length_map, Paired.length hS]
      exact List.take_length
    rw [l1] at hI
    exact hI
abbrev sLproduct : Stmt := topS 30
theorem scLproduct : FnScope ["_law_size", "_law_row", "_law_found", "_law_swap"] ["_law_size", "_law_row"] (defScope sLproduct) := ⟨rfl, rfl, rfl, by decide +kernel, rfl, by decide +kernel, by decide +kernel⟩
theorem ok_lproduct (D : DefAt K mg "_law_row_product" sLproduct) (mt : mg "tuple" = none) (mr : mg "range" = none) (S : Has P w K mg base 1 "_law_swapped" ["_law_move", "_law_swap"] spSwapped) :
    Has P w K mg base 2 "_law_row_product" ["_law_size", "_law_row"] spProduct := by
  refine has_of D scLproduct (fun _ _ _ _ _ _ us hl => match us, hl with | [_, _], _ => rfl) ?_ ?_
  · rintro vs H Q E ⟨_, _, _, rfl, _⟩
    rfl
  rintro f cdv A outer s H vs Q E hr ⟨n, r, ss, rfl, ⟨as, hR, hS⟩, hn, q⟩
  refine ⟨_, pss_cons (ps_set (i := 2) scLproduct.nd rfl (.inl rfl) (pe_tupRg rfl (by rfl) mt (prg_1 (by rfl) mr (pv 0))))
    (pss_cons (ps_for PassesOwn.never rfl (pi_tup (pv 1)) (pg_name (i := 3) scLproduct.nd rfl (.inl rfl)) (pss_one (ps_set (i := 2) scLproduct.nd rfl (.inl rfl) (pe_has S hr (by rfl) (pa_cons (pv 2) (pa_cons (pv 3) pa_nil))))))
    (pss_one (ps_ret (pv 2)))), ?_⟩
  refine q_asgU (xs := (rng n).map V.int) (eu_idle (ev_var rfl) hn) fun p H1 hp e1 h1 => ?_
  refine q_forT (ev_var rfl) (st_of (e1 _ _ hR)) (ProdIn H n r ss) (fun H2 e2 => ⟨none, p, rfl, hp, e1.trans e2, e2 _ _ h1⟩) ?_ ?_ ?_
  · rintro i σ' H' _ ⟨y3, p', rfl, hp', e', hI⟩
    exact st_of (e' _ _ hR)
  · intro i x σ' H' hx h
    exact prod_turn (fun _ _ _ => rfl) hx hS hn h (fun _ _ z => z)
  · rintro σ' H' ⟨y3, p', rfl, hp', e', hI⟩
    refine ⟨_, rfl, q p' H' hp' e' ?_⟩
    have l1 : ss.take (as.map V.ref).length = ss := by
      rw [List.length_map, Paired.length hS]
      exact List.take_length
    rw [l1] at hI
    exact hI
end
end K17
/-! the walk, third part: the strict row -/
namespace K17
open PySem PySem.Spec PyProof.Rows L2 Evl
section
variable {K : PySem.W.Frag} {σ : L2.St} {H : Hp} {te : TE} {D : Ends} {tu tz : TS}
theorem q_forDown {ta : TA} {j n : Nat} (h : EvA ta σ H [.int (n : Int), .int 0, .int (-1)]) (hn : n ≤ 100000) (Pv : Nat → L2.St → Hp → Prop) (h0 : ∀ H1, Ex H H1 → Pv 0 σ H1)
    (hs : ∀ (i : Nat) σ' H', i < n → Pv i σ' H' → tu { D with nx := Pv (i + 1), ct := Pv (i + 1), bk := tz D } (σ'.set j (some (.int ((n - i : Nat) : Int)))) H') (hd : ∀ σ' H', Pv n σ' H' → tz D σ' H') : tSeq (tFor (iRng3 ta) (gName j) tu) tz D σ H := by
  refine h H (Ex.refl H) _ fun H1 e => ⟨n, 0, -1, n, rfl, ?_, ?_⟩
  · have := RgC.neg (i := (n : Int)) (j := 0) (by omega) (by omega) (by omega) (by omega)
    rw [show ((n : Int) - 0).toNat = n by omega] at this
    exact this
  · refine for_rangeC (D := { D with nx := tz D }) (lo := (n : Int)) (c := -1) (n := n) Pv (h0 H1 e) (fun i σ' H' hi p => ?_) hd
    have e1 : (n : Int) + ((i : Nat) : Int) * -1 = ((n - i : Nat) : Int) := by omega
    rw [e1]
    exact hs i σ' H' hi p
theorem el_revL {l : Addr} {xs : List V} (h : Ev te σ H (.ref l)) (hl : H l = some (.lst xs)) : EvL (tRevL K te) σ H xs.reverse := fun H1 e Q q =>
  h H1 e _ fun H2 e2 => ⟨l, xs, rfl, sq_of (e2 _ _ (e _ _ hl)), fun p hp => q p _ (fresh_back e2 hp) (e2.trans (Ex.new hp)) upd_same⟩
theorem mv_atI {n k : Nat} {l : List Int} (h : Mv n l) (hk : k < n) : atI (l.map V.int) (k : Int) = some (.int (fn l k : Nat)) := by
  refine atI_nat ?_
  rw [List.getElem?_map, (h.at hk).1]
  rfl
end
def RetRow (ss : List (Int × Int)) (H : Hp) (Q : VK) : Prop := ∀ p H2, H p = none → Ex H H2 → RowAt H2 p ss → Q (.ref p) H2
def spStrict : Sp := fun vs H Q _ => ∃ (m : Addr) (n : Nat) (mv : List Int), vs = [.ref m] ∧ IntsAt H m mv ∧ Mv n mv ∧ 0 < n ∧ n ≤ 1000 ∧ RetRow (strictL mv) H Q
structure StrD (H : Hp) (o : Addr) (n : Nat) (mv : List Int) (i : Nat) (h : Addr) (l : List Int) (as : List Addr) (fs : List (Int × Int)) (H' : Hp) : Prop where
  ex : Ex H H'
  lst : H' o = some (.lst (as.map V.ref))
  sws : SwsAt H' as fs
  itp : IntsAt H' h l
  mvl : Mv n l
  fx : Fx (n - 1 - i) n l
  eq : fs ++ stRow (n - 1 - i) l = stRow (n - 1) mv
  len : as.length ≤ i
/-- between the turns -/
def StrIn (H : Hp) (m o : Addr) (n : Nat) (mv : List Int) (i : Nat) (σ' : L2.St) (H' : Hp) : Prop :=
  ∃ y3 y4 h l as fs, σ' = [some (.ref m), some (.ref o), some (.ref h), y3, y4] ∧ StrD H o n mv i h l as fs H'
section
variable {P : Program} {w : World} {base : Heap} {K : PySem.W.Frag} {mg : Str → Option Value}
abbrev sStrict : Stmt := topS 16
theorem scStrict : FnScope ["move", "found", "here", "place", "swap"] ["move"] (defScope sStrict) := ⟨rfl, rfl, rfl, by decide +kernel, rfl, by decide +kernel, by decide +kernel⟩
theorem ok_strict (D : DefAt K mg "strict_in" sStrict) (ml : mg "len" = none) (mr : mg "range" = none) (mt : mg "tuple" = none) (S : Has P w K mg base 1 "swapped_in" ["move", "swap"] spSwapped) : Has P w K mg base 2 "strict_in" ["move"] spStrict := by
  refine has_of D scStrict (fun _ _ _ _ _ _ us hl => match us, hl with | [_], _ => rfl) ?_ ?_
  · rintro vs H Q E ⟨_, _, _, rfl, _⟩
    rfl
  rintro f cdv A outer s H vs Q E hr ⟨m, n, mv, rfl, hm, hmv, h0, hn, q⟩
  refine ⟨_, pss_cons (ps_par (i := 1) (j := 2) rfl scStrict.nd rfl rfl (by decide) rfl rfl (pa_cons (pe_lst pa_nil) (pa_cons (pv 0) pa_nil)) (by rfl))
    (pss_cons (ps_for PassesOwn.never rfl (pi_range3 (by rfl) mr (pa_cons (pe_op op_sub (pe_callB call_len_seq (by rfl) ml PySem.boot_len (pa_cons (pv 0) pa_nil)) pe_int) (pa_cons pe_int (pa_cons (pe_un un_neg pe_int) pa_nil))))
        (pg_name (i := 3) scStrict.nd rfl (.inl rfl))
      (pss_one (ps_if (pt_cmpR op_ne (pe_ix ix_tup (pv 2) (pv 3) (fun _ _ => rfl)) (pv 3) (nomark _))
        (pss_cons (ps_set (i := 4) scStrict.nd rfl (.inl rfl) (pe_tup (pa_cons (pe_ix ix_tup (pv 2) (pv 3) (fun _ _ => rfl)) (pa_cons (pv 3) pa_nil))))
        (pss_cons (ps_expr (pe_bm PySem.F.plainAttrs_list PySem.F.slot_list_append PySem.F.type_list_append mt_append (pv 1) (pa_cons (pv 4) pa_nil)))
        (pss_one (ps_set (i := 2) scStrict.nd rfl (.inl rfl) (pe_has S hr (by rfl) (pa_cons (pv 2) (pa_cons (pv 4) pa_nil))))))) pss_nil)))
    (pss_one (ps_ret (pe_tupleOf (by rfl) mt (pe_revL (pv 1)))))), ?_⟩
  have hlen : mv.length = n := hmv.len
  -- found, here = [], move
  refine ⟨Nat.zero_le _,
    fun o no => ?_⟩
  refine ⟨.ref m, rfl, .ref o, .ref m, rfl, ?_⟩
  have e0 : Ex H (upd H o (.lst [])) := Ex.new no
  dsimp only
  -- the loop
  refine q_forDown (n := n - 1) (ea_cons (ev_is (ev_op (ev_cb (ea_cons (ev_var rfl) ea_nil) (rc_lenT (e0 _ _ hm))) (ev_c (v := .int 1)) rv_I0) ?_) (ea_cons ev_c (ea_cons (ev_un ev_c ru_neg) ea_nil))) (by omega)
    (StrIn H m o n mv) (fun H1 e1 => ?_) (fun i σ' H' hi h => ?_) (fun σ' H' h => ?_)
  · rw [List.length_map, hlen]
    exact congrArg V.int
      (by omega)
  · exact ⟨none, none, m, mv, [], [], rfl, ⟨e0.trans e1, e1 _ _ upd_same, .nil, (e0.trans e1) _ _ hm, hmv, fun j h1 h2 => by omega, rfl, Nat.le_refl _⟩⟩
  · obtain ⟨y3, y4, hh, l, as, fs, rfl, X⟩ := h
    obtain ⟨k, hk⟩ : ∃ k, n - 1 - i = k + 1 := ⟨n - 1 - i - 1, by omega⟩
    have hk1 : n - 1 - (i + 1) = k := by omega
    have hkn : k + 1 < n := by omega
    have hfx := X.fx
    have heq := X.eq
    rw [hk] at hfx heq
    have ei : ((n - 1 - i : Nat) : Int) = ((k + 1 : Nat) : Int) := by rw [hk]
    rw [ei]
    have at1 : atI (l.map V.int) ((k + 1 : Nat) : Int) = some (.int (fn l (k + 1) : Nat)) := mv_atI X.mvl hkn
    refine s_when (b := !decide (V.int ((fn l (k + 1) : Nat) : Int) = V.int ((k + 1 : Nat) : Int))) (et_test (ev_op (ev_op (ev_var (v := .ref hh) rfl) (ev_var (v := .int ((k + 1 : Nat) : Int)) rfl) (rv_ixT (st_of X.itp) at1)) (ev_var (v := .int ((k + 1 : Nat) : Int)) rfl) (rv_ne rfl))) (fun hb H1 e1 => ?_) (fun hb H1 e1 => ?_)
    · have hne : fn l (k + 1) ≠ k + 1 := fun z => by
        rw [z, decide_eq_true rfl] at hb
        cases hb
      have sr : stRow (k + 1) l = (((fn l (k + 1) : Nat) : Int), ((k + 1 : Nat) : Int)) :: stRow k (swapL ((fn l (k + 1) : Nat) : Int) ((k + 1 : Nat) : Int) l) := by
        show (if fn l (k + 1) = k + 1 then _ else _) = _
        rw [if_neg hne]
      refine q_asgU (xs := [.int ((fn l (k + 1) : Nat) : Int), .int ((k + 1 : Nat) : Int)]) (eu_tup (ea_cons (ev_op (ev_var (v := .ref hh) rfl) (ev_var (v := .int ((k + 1 : Nat) : Int)) rfl) (rv_ixT (st_of (e1 _ _ X.itp)) at1))
        (ea_cons (ev_var (v := .int ((k + 1 : Nat) : Int)) rfl) ea_nil)) (show 2 ≤ 100000 by decide)) fun p H2 hp e2 h2 => ?_
      refine q_app (l := o) (e2 _ _ (e1 _ _ X.lst)) (ev_var (v := .ref o) rfl) (ev_var (v := .ref p) rfl) (by rw [List.length_map]; have := X.len; omega) fun H3 e3 => ?_
      have l3 : H3 o = some (.lst (as.map V.ref)) := e3 _ _ (e2 _ _ (e1 _ _ X.lst))
      have t3 : TEx H' (upd H3 o (.lst (as.map V.ref ++ [.ref p]))) := (TEx.of ((e1.trans e2).trans e3)).trans (TEx.lst l3)
      have p3 : (upd H3 o (.lst (as.map V.ref ++ [.ref p]))) p = some (.tup [.int ((fn l (k + 1) : Nat) : Int), .int ((k + 1 : Nat) : Int)]) := TEx.lst l3 _ _ (e3 _ _ h2)
      refine s_asgU (xs := (swapL ((fn l (k + 1) : Nat) : Int) ((k + 1 : Nat) : Int) l).map V.int) (eu_call (ea_cons (ev_var (v := .ref hh) rfl) (ea_cons (ev_var (v := .ref p) rfl) ea_nil)) ?_) fun p4 H4 hp4 e4 h4 => ?_
      · intro H5 e5 Q5 q5 E5
        exact ⟨hh, p, l, (((fn l (k + 1) : Nat) : Int), ((k + 1 : Nat) : Int)), rfl, e5 _ _ (t3 _ _ X.itp), e5 _ _ p3, by rw [X.mvl.len]; exact hn, q5⟩
      · refine ⟨_, _, p4, _, as ++ [p], fs ++ [(((fn l (k + 1) : Nat) : Int), ((k + 1 : Nat) : Int))], rfl, ⟨?_, ?_, ?_, h4, X.mvl.st hkn, ?_, ?_, ?_⟩⟩
        · exact (Ex.mut (((X.ex.trans e1).trans e2).trans e3) no).trans e4
        · refine e4 _ _ ?_
          rw [upd_same, List.map_append]
          rfl
        · exact pr_app (X.sws.ex (t3.trans (TEx.of e4))) (e4 _ _ p3)
        · rw [hk1]
          exact Fx.step X.mvl hfx hkn
        · rw [hk1, List.append_assoc, List.singleton_append, ← sr]
          exact heq
        · rw [List.length_append,
            List.length_singleton]
          have := X.len
          omega
    · have heq2 : fn l (k + 1) = k + 1 := by
        by_cases c : fn l (k + 1) = k + 1
        · exact c
        · rw [decide_eq_false (fun z => c (by have := V.int.inj z; omega))] at hb
          cases hb
      have sr : stRow (k + 1) l = stRow k l := by
        show (if fn l (k + 1) = k + 1 then _ else _) = _
        rw [if_pos heq2]
      refine ⟨_, y4, hh, l, as, fs, rfl, ⟨X.ex.trans e1, e1 _ _ X.lst, X.sws.ex (TEx.of e1), e1 _ _ X.itp, X.mvl, ?_, ?_, ?_⟩⟩
      · rw [hk1]
        exact hfx.same heq2
      · rw [hk1, ← sr]
        exact heq
      · have := X.len
        omega
  · obtain ⟨y3, y4, hh, l, as, fs, rfl, X⟩ := h
    have heq := X.eq
    rw [show n - 1 - (n - 1) = 0 by omega] at heq
    have hfs : fs = stRow (n - 1) mv := by rw [← heq]; exact (List.append_nil fs).symm
    refine s_retU (eu_tupOfL (el_revL (ev_var (v := .ref o) rfl) X.lst)) fun p H1 hp e1 h1 => q p H1 (fresh_back X.ex hp) (X.ex.trans e1) ?_
    refine ⟨as.reverse, by rw [List.map_reverse]; exact h1, ?_⟩
    have e : strictL mv = fs.reverse := by
      unfold strictL
      rw [hlen, hfs]
    rw [e]
    exact pr_reverse (X.sws.ex (TEx.of e1))
end
end K17
/-! the walk, fourth part: what a move is -/
namespace K17
open PySem PySem.Spec PyProof.Rows L2 Evl
/-! ### lists and tuples of ints compared -/
theorem dp_ints {K : PySem.W.Frag} {H : Hp} : ∀ ns : List Int, DpAll K H (ns.map V.int) (ns.map PyData.int)
  | [] => .nil
  | n :: r => .cons (.int n) (dp_ints r)
theorem lay_ints : ∀ ns : List Int, PyData.canLayAll0 (ns.map PyData.int) = true
  | [] => by
    simp [PyData.canLayAll0]
  | n :: r => by simp [PyData.canLayAll0, PyData.canLay0, lay_ints r]
theorem depth_ints : ∀ ns : List Int, PyData.depthAll (ns.map PyData.int) = 0
  | [] => by
    simp [PyData.depthAll]
  | n :: r => by simp [PyData.depthAll, PyData.depth, depth_ints r]
theorem eqv_ints : ∀ ns ms : List Int, PyData.eqvAll (ns.map PyData.int) (ms.map PyData.int) = decide (ns = ms)
  | [], [] => by
    simp [PyData.eqvAll]
  | [], _ :: _ => by
    simp [PyData.eqvAll]
  | _ :: _, [] => by
    simp [PyData.eqvAll]
  | n :: r, m :: t => by
    rw [List.map_cons, List.map_cons, PyData.eqvAll, eqv_ints r t, PyData.eqv]
    by_cases h : n = m
    · subst h; simp
    · simp [h]
theorem shaped_tup (ns : List Int) : SeqAt.shaped (.tuple (ns.map PyData.int)) = true := by
  unfold SeqAt.shaped
  rw [PyData.canLay0, lay_ints, PyData.depth, depth_ints] <;> rfl
theorem shaped_lst (ns : List Int) : SeqAt.shaped (.list (ns.map PyData.int)) = true := by
  unfold SeqAt.shaped
  rw [PyData.canLay0, lay_ints, PyData.depth, depth_ints] <;> rfl
section
variable {K : PySem.W.Frag} {H : Hp} {p q : Addr} {ns ms : List Int}
theorem rv_eqT (hp : IntsAt H p ns) (hq : IntsAt H q ms) : RV (rEqD K) (.ref p) (.ref q) H (.bl (decide (ns = ms))) := fun H1 e Q k =>
  ⟨.tuple (ns.map PyData.int), .tuple (ms.map PyData.int), .tup (st_of (e _ _ hp)) (dp_ints ns), .tup (st_of (e _ _ hq)) (dp_ints ms), shaped_tup ns, shaped_tup ms, by
    rw [PyData.eqv, eqv_ints]
    exact k H1 (Ex.refl H1)⟩
theorem rv_neT (hp : IntsAt H p ns) (hq : IntsAt H q ms) : RV (rNeD K) (.ref p) (.ref q) H (.bl (!decide (ns = ms))) := fun H1 e Q k =>
  ⟨.tuple (ns.map PyData.int), .tuple (ms.map PyData.int), .tup (st_of (e _ _ hp)) (dp_ints ns), .tup (st_of (e _ _ hq)) (dp_ints ms), shaped_tup ns, shaped_tup ms, by
    rw [PyData.eqv, eqv_ints]
    exact k H1 (Ex.refl H1)⟩
theorem rv_eqL (hp : H p = some (.lst (ns.map V.int))) (hq : H q = some (.lst (ms.map V.int))) : RV (rEqD K) (.ref p) (.ref q) H (.bl (decide (ns = ms))) := fun H1 e Q k =>
  ⟨.list (ns.map PyData.int), .list (ms.map PyData.int), .lst (sq_of (e _ _ hp)) (dp_ints ns), .lst (sq_of (e _ _ hq)) (dp_ints ms), shaped_lst ns, shaped_lst ms, by
    rw [PyData.eqv, eqv_ints]
    exact k H1 (Ex.refl H1)⟩
end
section
variable {P : Program} {w : World} {base : Heap} {K : PySem.W.Frag} {mg : Str → Option Value}
/-! ### is_move_in -/
theorem el_atoms {σ : L2.St} {H : Hp} {a : Addr} {xs : List V} {tl te : TE} {j : Nat} {vs : List Nat} (h : Ev tl σ H (.ref a)) (hx : H a = some (.tup xs)) (hz : xs.length ≤ 1000) (hw : ∀ x, wipe ((wipe σ vs).set j (some x)) vs = wipe σ vs)
    (he : ∀ (i : Nat) (x : V) H1, Ex H H1 → xs[i]? = some x → Ev te ((wipe σ vs).set j (some x)) H1 (.bl (integerV x))) : EvL (tLc (iTup K tl) (gName j) tYes te vs) σ H ((xs.map integerV).map V.bl) := by
  have e : (List.range xs.length).map (fun i => V.bl (integerV (xs.getD i .non))) = (xs.map integerV).map V.bl := by
    rw [map_range_get (f := fun x => V.bl (integerV x)), List.map_map]
    · rfl
    · intro i x hi
      rw [List.getD_eq_getElem?_getD, hi] <;> rfl
  rw [← e]
  refine el_lcT _ h (st_of hx) (by omega) hw fun i x H1 e1 hi => ?_
  rw [List.getD_eq_getElem?_getD, hi]
  exact he i x H1 e1 hi
theorem rcl_sorted {H : Hp} {m : Addr} {n : Nat} {mv : List Int} (hm : IntsAt H m mv) (hp : mv.Perm (rng n)) (hn : n < 64) : RCL (rSortedTup K) [.ref m] H ((rng n).map V.int) := fun H1 e Q q =>
  ⟨m, mv, rfl, st_of (e _ _ hm), by rw [hp.length_eq, rng_len]; exact hn, fun ns' p h1 h2 h3 => by
    have en : ns' = rng n := PySem.W.os_sorted_one (h1.trans hp) h2 (rng_sorted n)
    rw [en]
    exact q p _ h3 (Ex.new h3) upd_same⟩
abbrev sMoveIn : Stmt := topS 17
abbrev nMoveIn : List Str := ["size", "value", "one"]
theorem scMoveIn : FnScope nMoveIn ["size", "value"] (defScope sMoveIn) := ⟨rfl, rfl, rfl, by decide +kernel, rfl, by decide +kernel, by decide +kernel⟩
def spMoveIn : Sp := fun vs H Q _ => ∃ (n : Nat) (m : Addr) (mv : List Int), vs = [.int n, .ref m] ∧ IntsAt H m mv ∧ mv.Perm (rng n) ∧ n < 64 ∧ RetV (.bl true) H Q
theorem ok_moveIn (D : DefAt K mg "is_move_in" sMoveIn) (mi : mg "isinstance" = none) (mt : mg "tuple" = none) (ml : mg "len" = none) (ma : mg "all" = none) (ms : mg "sorted" = none) (mls : mg "list" = none) (mr : mg "range" = none)
    (I : Has P w K mg base 2 "is_integer" ["value"] spInteger) : Has P w K mg base 3 "is_move_in" ["size", "value"] spMoveIn := by
  refine has_of D scMoveIn (fun _ _ _ _ _ _ us hl => match us, hl with | [_, _], _ => rfl) ?_ ?_
  · rintro vs H Q E ⟨_, _, _, rfl, _⟩
    rfl
  rintro f cdv A outer s H vs Q E hr ⟨n, m, mv, rfl, hm, hp, hn, q⟩
  refine ⟨_, pss_cons (ps_if (PW.pt (pw_or (pt_not (pt_val (pe_callB call_isi (by rfl) mi boot_isinstance (pa_cons (pv 1) (pa_cons (pe_bltn (v := .ty "tuple") (by rfl) mt boot_tuple rfl) pa_nil)))))
      (pw_or (pt_cmpR op_ne (pe_callB call_len_seq (by rfl) ml PySem.boot_len (pa_cons (pv 1) pa_nil)) (pv 0) (nomark _))
      (pw_or1 (pt_not (pt_val (pe_callB (cr_all rfl) (by rfl) ma (by decide +kernel) (pa_cons (pe_lc (own := [("one", 2)]) (g := gName 2) (tt := tYes) rfl scMoveIn.nd (pi_tup (pv 1))
        (blkOk_by (own := [("one", 2)]) (N := nMoveIn) (sc := defScope sMoveIn) (by decide +kernel))
        (fun _ _ _ _ _ => pg_name (i := 2) scMoveIn.nd rfl (.inl rfl)) (fun _ _ _ _ _ => pts_nil)
        (fun _ _ _ _ _ => pe_has I hr (by rfl) (pa_cons (pv 2) pa_nil))) pa_nil))))))))
      (pss_one (ps_ret pe_bl)) pss_nil)
    (pss_one (ps_ret (pe_cmpR (op_eqD hr.units) (pe_callB cr_sortedTup (by rfl) ms (by decide +kernel) (pa_cons (pv 1) pa_nil)) (pe_listRg rfl (by rfl) mls (prg_1 (by rfl) mr (pv 0))) (nomark _)))), ?_⟩
  have hl : (mv.map V.int).length = n := by rw [List.length_map, hp.length_eq, rng_len]
  have hall : ((mv.map V.int).map integerV).all id = true := by
    rw [List.all_eq_true]
    intro b hb
    rw [List.map_map] at hb
    obtain ⟨z, hz, rfl⟩ := List.mem_map.mp hb
    have := rng_mem.mp (hp.mem_iff.mp hz)
    have hb : (64 : Int) < big := by decide
    show (decide (-big < z) && decide (z < big)) = true
    rw [decide_eq_true (by omega), decide_eq_true (by omega)]
    rfl
  refine q_when (b := false) (et_is (et_or (et_not (et_B (ev_cb (ea_cons (ev_var rfl) (ea_cons ev_c ea_nil)) (rc_isi (kind_tup hm) (b := true) (by decide +kernel)))))
    (fun _ => et_or (et_test (ev_op (ev_cb (ea_cons (ev_var rfl) ea_nil) (rc_lenT hm)) (ev_var rfl) (rv_ne rfl)))
      (fun _ => et_not (et_B (ev_allL (el_atoms (ev_var (v := .ref m) rfl) hm (by omega) (fun _ => rfl) (fun i x H1 e1 hi => ev_call (ea_cons (ev_var rfl) ea_nil) (fun H2 e2 Q2 q2 E2 => ⟨x, rfl, by rw [ints_get hi]; trivial, q2⟩)))))))) ?_) (fun h => nomatch h) fun _ H1 e1 => ?_
  · rw [hall, hl, decide_eq_true rfl]
    rfl
  · refine s_ret (v := .bl true) (ev_is (ev_opLL (el_cb (ea_cons (ev_var rfl) ea_nil) (rcl_sorted (e1 _ _ hm) hp hn)) (el_idle (ev_var rfl) (by omega)) (fun p1 p2 H2 g1 g2 _ => rv_eqL g1 g2)) ?_) (fun H2 e2 => q H2 (e1.trans e2))
    rw [decide_eq_true rfl]
/-! ### is_move, require_move -/
abbrev sMove : Stmt := topS 18
theorem scMove : FnScope ["value"] ["value"] (defScope sMove) := ⟨rfl, rfl, rfl, by decide +kernel, rfl, by decide +kernel, by decide +kernel⟩
def spMove : Sp := fun vs H Q _ => ∃ (n : Nat) (m : Addr) (mv : List Int), vs = [.ref m] ∧ IntsAt H m mv ∧ mv.Perm (rng n) ∧ 0 < n ∧ n ≤ 24 ∧ RetV (.bl true) H Q
theorem ok_move (D : DefAt K mg "is_move" sMove) (mi : mg "isinstance" = none) (mt : mg "tuple" = none) (ml : mg "len" = none) (gM : ∃ t, mg "MOST_PLACES" = some (.int 24 t))
    (I : Has P w K mg base 3 "is_move_in" ["size", "value"] spMoveIn) : Has P w K mg base 4 "is_move" ["value"] spMove := by
  obtain ⟨tM, gM⟩ := gM
  refine has_of D scMove (fun _ _ _ _ _ _ us hl => match us, hl with | [_], _ => rfl) ?_ ?_
  · rintro vs H Q E ⟨_, _, _, rfl, _⟩
    rfl
  rintro f cdv A outer s H vs Q E hr ⟨n, m, mv, rfl, hm, hp, h0, hn, q⟩
  refine ⟨_, pss_one (ps_ret (pe_and (pe_callB call_isi (by rfl) mi boot_isinstance (pa_cons (pv 0) (pa_cons (pe_bltn (v := .ty "tuple") (by rfl) mt boot_tuple rfl) pa_nil)))
    (pe_and (pe_chain op_le op_le pe_int (pe_callB call_len_seq (by rfl) ml PySem.boot_len (pa_cons (pv 0) pa_nil)) (pe_glob (v := .int 24) (by rfl) gM ⟨_, rfl⟩))
    (pe_one (pe_has I hr (by rfl) (pa_cons (pe_callB call_len_seq (by rfl) ml PySem.boot_len (pa_cons (pv 0) pa_nil)) (pa_cons (pv 0) pa_nil))))))), ?_⟩
  have hl : (mv.map V.int).length = n := by rw [List.length_map, hp.length_eq, rng_len]
  have hlen : ∀ H1, Ex H H1 → RC (rLenS K) [.ref m] H1 (.int (n : Int)) := fun H1 e1 => by
    have := rc_lenT (K := K) (e1 _ _ hm)
    rw [hl] at this
    exact this
  refine s_ret (v := .bl true) (ev_is (ev_andV (ev_cb (ea_cons (ev_var rfl) (ea_cons ev_c ea_nil)) (rc_isi (kind_tup hm) (b := true) (by decide +kernel)))
    (fun _ => ev_andV (ev_chain (ev_c (v := .int 1)) (ev_cb (ea_cons (ev_var rfl) ea_nil) (hlen H (Ex.refl H))) rv_I0 (fun _ => ev_c (v := .int 24)) (fun _ => rv_I0))
      (fun _ => ev_call (ea_cons (ev_cb (ea_cons (ev_var rfl) ea_nil) (hlen H (Ex.refl H))) (ea_cons (ev_var rfl) ea_nil)) (fun H2 e2 Q2 q2 E2 => ⟨n, m, mv, rfl, e2 _ _ hm, hp, by omega, q2⟩)))) ?_) q
  show V.bl (true && ((decide ((1 : Int) ≤ n) && decide ((n : Int) ≤ 24)) && true)) = V.bl true
  rw [decide_eq_true (by omega), decide_eq_true (by omega)]
  rfl
abbrev sReqMove : Stmt := topS 21
theorem scReqMove : FnScope ["value"] ["value"] (defScope sReqMove) := ⟨rfl, rfl, rfl, by decide +kernel, rfl, by decide +kernel, by decide +kernel⟩
def spReqMove : Sp := fun vs H Q _ => ∃ (n : Nat) (m : Addr) (mv : List Int), vs = [.ref m] ∧ IntsAt H m mv ∧ mv.Perm (rng n) ∧ 0 < n ∧ n ≤ 24 ∧ RetV .non H Q
theorem ok_reqMove (D : DefAt K mg "require_move" sReqMove) (I : Has P w K mg base 4 "is_move" ["value"] spMove) : Has P w K mg base 5 "require_move" ["value"] spReqMove := by
  refine has_of D scReqMove (fun _ _ _ _ _ _ us hl => match us, hl with | [_], _ => rfl) ?_ ?_
  · rintro vs H Q E ⟨_, _, _, rfl, _⟩
    rfl
  rintro f cdv A outer s H vs Q E hr ⟨n, m, mv, rfl, hm, hp, h0, hn, q⟩
  refine ⟨_, pss_one (ps_if (pt_not (pt_val (pe_has I hr (by rfl) (pa_cons (pv 0) pa_nil)))) pss_never pss_nil), ?_⟩
  have hw : SpV spMove [.ref m] H (.bl true) := fun H1 e1 Q1 q1 E1 => ⟨n, m, mv, rfl, e1 _ _ hm, hp, h0, hn, q1⟩
  exact s_when (et_not (et_B (ev_call (ea_cons (ev_var rfl) ea_nil) hw))) (fun h => nomatch h) (fun _ H1 e1 => q H1 e1)
end
end K17
/-! the walk, fifth part: values judged as rows -/
namespace K17
open PySem PySem.Spec PyProof.Rows L2 Evl
/-! ### values that are judged -/
inductive It
  | no
  | pr (xs : List V)
inductive Vl
  | no
  | rw (its : List It)
def NoTup (H : Hp) (v : V) : Prop := ∃ n, KindOf H v n ∧ kitB n "tuple" = some false
theorem NoTup.ex {H H' : Hp} {v : V} (e : Ex H H') (h : NoTup H v) : NoTup H' v := by
  obtain ⟨n, h1, h2⟩ := h
  exact ⟨n, h1.ex e, h2⟩
def ItAt (H : Hp) (v : V) : It → Prop
  | .no => NoTup H v
  | .pr xs => ∃ a, v = .ref a ∧ H a = some (.tup xs) ∧ (∀ x ∈ xs, Atm x) ∧ xs.length ≤ 100
def VlAt (H : Hp) (v : V) : Vl → Prop
  | .no => NoTup H v
  | .rw its => ∃ a vs, v = .ref a ∧ H a = some (.tup vs) ∧ Paired (ItAt H) vs its ∧ its.length ≤ 1000
theorem ItAt.ex {H H' : Hp} {v : V} (e : Ex H H') : ∀ {t : It}, ItAt H v t → ItAt H' v t
  | .no, h => NoTup.ex e h
  | .pr xs, ⟨a, h1, h2, h3⟩ => ⟨a, h1, e _ _ h2, h3⟩
theorem VlAt.ex {H H' : Hp} {v : V} (e : Ex H H') : ∀ {t : Vl}, VlAt H v t → VlAt H' v t
  | .no, h => NoTup.ex e h
  | .rw its, ⟨a, vs, h1, h2, h3, h4⟩ => ⟨a, vs, h1, e _ _ h2, Paired.mapP h3 fun _ _ z => z.ex e, h4⟩
def swIt (s : Int × Int) : It := .pr [.int s.1, .int s.2]
theorem row_its {H : Hp} : ∀ {as : List Addr} {ss : List (Int × Int)}, SwsAt H as ss → Paired (ItAt H) (as.map V.ref) (ss.map swIt)
  | _, _, .nil => .nil
  | _, _, .cons f t => .cons ⟨_, rfl, f, fun x hx => by
      rcases List.mem_cons.mp hx
        with e | hx
      · subst e; trivial
      · rcases List.mem_cons.mp hx with e | hx
        · subst e; trivial
        · exact absurd hx List.not_mem_nil, by show 2 ≤ 100; decide⟩ (row_its t)
theorem RowAt.vl {H : Hp} {p : Addr} {ss : List (Int × Int)} (h : RowAt H p ss) (hz : ss.length ≤ 1000) : VlAt H (.ref p) (.rw (ss.map swIt)) := by
  obtain ⟨as, h1, h2⟩ := h
  exact ⟨p, _, rfl, h1, row_its h2, by rw [List.length_map]; exact hz⟩
/-- whether it is a swap of n places, a row of these -/
def swOkB (n : Nat) : It → Bool
  | .pr [.int a, .int b] => decide (0 ≤ a) && (decide (a < b) && decide (b < (n : Int)))
  | _ => false
def rowOkB (n : Nat) : Vl → Bool
  | .no => false
  | .rw its => decide (its.length ≤ 200) && its.all (swOkB n)
def swOf : It → Int × Int
  | .pr [.int a, .int b] => (a, b)
  | _ => (0, 0)
def ssOf : Vl → List (Int × Int)
  | .no => []
  | .rw its => its.map swOf
def judge (n : Nat) (mv : List Int) (d : Vl) : Bool := rowOkB n d && decide (prodL n (ssOf d) = mv)
theorem swOk_shape {n : Nat} {t : It} (h : swOkB n t = true) : ∃ a b, t = .pr [.int a, .int b] := by
  unfold swOkB at h
  split at h
  · exact ⟨_, _, rfl⟩
  · cases h
/-- a value that is a row is read as one -/
theorem rowAt_of {H : Hp} {v : V} {n : Nat} {d : Vl} (h : VlAt H v d) (ok : rowOkB n d = true) : ∃ a, v = .ref a ∧ RowAt H a (ssOf d) := by
  cases d with
  | no => cases ok
  | rw its =>
    obtain ⟨a, vs, rfl, h2, h3, h4⟩ := h
    have hall : its.all (swOkB n) = true := (Bool.and_eq_true_iff.mp ok).2
    refine ⟨a, rfl, ?_⟩
    have key : ∀ {vs : List V} {its : List It}, Paired (ItAt H) vs its → its.all (swOkB n) = true → ∃ as : List Addr, vs = as.map V.ref ∧ SwsAt H as (its.map swOf) := by
      intro vs its hp
      induction hp with
      | nil => exact fun _ => ⟨[], rfl, .nil⟩
      | cons f t ih =>
        intro hal
        rw [List.all_cons, Bool.and_eq_true] at hal
        obtain ⟨x, y, e⟩ := swOk_shape hal.1
        subst e
        obtain ⟨p, rfl, hp, _⟩ := f
        obtain ⟨as, rfl, h⟩ := ih hal.2
        exact ⟨p :: as, rfl, .cons hp h⟩
    obtain ⟨as, rfl, hs⟩ := key h3 hall
    exact ⟨as, h2, hs⟩
section
variable {P : Program} {w : World} {base : Heap} {K : PySem.W.Frag} {mg : Str → Option Value}
/-! ### is_swap_in -/
theorem rc_isTup {H : Hp} {v : V} (h : NoTup H v) : RC (rIsi K) [v, .ty "tuple"] H (.bl false) := by
  obtain ⟨n, h1, h2⟩ := h
  exact rc_isi h1 h2
theorem atI_0 (x y : V) : atI [x, y] (0 : Int) = some x := atI_nat (j := 0) rfl
theorem atI_1 (x y : V) : atI [x, y] (1 : Int) = some y := atI_nat (j := 1) rfl
theorem two_of {α : Type} {xs : List α} (h : xs.length = 2) : ∃ x y, xs = [x, y] :=
  match xs, h with
  | [x, y], _ => ⟨x, y, rfl⟩
theorem integerV_int {x : V} (h : integerV x = true) : ∃ i, x = .int i := by
  cases x <;> first | exact ⟨_, rfl⟩ | (cases h)
theorem swOk_len {n : Nat} {xs : List V} (h : xs.length ≠ 2) : swOkB n (.pr xs) = false := by
  unfold swOkB
  split
  · rename_i a b e
    cases e
    exact absurd rfl h
  · rfl
theorem swOk_big {n : Nat} {x y : V} (hn : n ≤ 1000) (h : (integerV x && (integerV y && true)) = false) : swOkB n (.pr [x, y]) = false := by
  unfold swOkB
  split
  · rename_i a b e
    cases e
    have hb : (1000 : Int) < big := by decide
    by_cases c : 0 ≤ a ∧ a < b ∧ b < (n : Int)
    · have e1 : integerV (.int a) = true := by
        show (decide (-big < a) && decide (a < big)) = true
        rw [decide_eq_true (by omega), decide_eq_true (by omega)]
        rfl
      have e2 : integerV (.int b) = true := by
        show (decide (-big < b) && decide (b < big)) = true
        rw [decide_eq_true (by omega), decide_eq_true (by omega)]
        rfl
      rw [e1, e2] at h
      cases h
    · by_cases c1 : 0 ≤ a
      · by_cases c2 : a < b
        · rw [decide_eq_true c1, decide_eq_true c2, decide_eq_false (fun z => c ⟨c1, c2, z⟩)]
          rfl
        · rw [decide_eq_true c1, decide_eq_false c2]
          rfl
      · rw [decide_eq_false c1]
        rfl
  · rfl
abbrev sSwapIn : Stmt := topS 19
abbrev nSwapIn : List Str := ["size", "value", "one"]
theorem scSwapIn : FnScope nSwapIn ["size", "value"] (defScope sSwapIn) := ⟨rfl, rfl, rfl, by decide +kernel, rfl, by decide +kernel, by decide +kernel⟩
def spSwapIn : Sp := fun vs H Q _ => ∃ (n : Nat) (v : V) (t : It), vs = [.int n, v] ∧ ItAt H v t ∧ n ≤ 1000 ∧ RetV (.bl (swOkB n t)) H Q
theorem ok_swapIn (D : DefAt K mg "is_swap_in" sSwapIn) (mi : mg "isinstance" = none) (mt : mg "tuple" = none) (ml : mg "len" = none) (ma : mg "all" = none)
    (I : Has P w K mg base 2 "is_integer" ["value"] spInteger) : Has P w K mg base 3 "is_swap_in" ["size", "value"] spSwapIn := by
  refine has_of D scSwapIn (fun _ _ _ _ _ _ us hl => match us, hl with | [_, _], _ => rfl) ?_ ?_
  · rintro vs H Q E ⟨_, _, _, rfl, _⟩
    rfl
  rintro f cdv A outer s H vs Q E hr ⟨n, v, t, rfl, hv, hn, q⟩
  refine ⟨_, pss_cons (ps_if (PW.pt (pw_or (pt_not (pt_val (pe_callB call_isi (by rfl) mi boot_isinstance (pa_cons (pv 1) (pa_cons (pe_bltn (v := .ty "tuple") (by rfl) mt boot_tuple rfl) pa_nil)))))
      (pw_or (pt_cmpR op_ne (pe_callB call_len_seq (by rfl) ml PySem.boot_len (pa_cons (pv 1) pa_nil)) pe_int (nomark _))
      (pw_or1 (pt_not (pt_val (pe_callB (cr_all rfl) (by rfl) ma (by decide +kernel) (pa_cons (pe_lc (own := [("one", 2)]) (g := gName 2) (tt := tYes) rfl scSwapIn.nd (pi_tup (pv 1))
        (blkOk_by (own := [("one", 2)]) (N := nSwapIn) (sc := defScope sSwapIn) (by decide +kernel))
        (fun _ _ _ _ _ => pg_name (i := 2) scSwapIn.nd rfl (.inl rfl)) (fun _ _ _ _ _ => pts_nil)
        (fun _ _ _ _ _ => pe_has I hr (by rfl) (pa_cons (pv 2) pa_nil))) pa_nil))))))))
      (pss_one (ps_ret pe_bl)) pss_nil)
    (pss_one (ps_ret (pe_links op_le op_lt op_lt pe_int (pe_ix ix_tup (pv 1) pe_int (fun _ _ => rfl)) (pe_ix ix_tup (pv 1) pe_int (fun _ _ => rfl)) (pv 0)))), ?_⟩
  cases t with
  | no =>
    refine q_when (b := true) (et_or (a := true) (b := true) (et_not (a := false) (et_B (ev_cb (ea_cons (ev_var (v := v) rfl) (ea_cons ev_c ea_nil)) (rc_isTup hv)))) (fun h => nomatch h)) (fun _ H1 e1 => ?_) (fun h => nomatch h)
    exact s_ret ev_c (fun H2 e2 => q H2 (e1.trans e2))
  | pr xs =>
    obtain ⟨a, rfl, ha, hat, hz⟩ := hv
    have hfirst : EvT (tOr (tNot (tB (tCB (rIsi K) (tCons (tVar 1) (tCons (tC (.ty "tuple")) tNil))))) (tOr (tTest (tOp rNe (tCB (rLenS K) (tCons (tVar 1) tNil)) (tC (.int 2)))) (tNot (tB (tCB (rAll K) (tCons (tLc (iTup K (tVar 1)) (gName 2) tYes (tCall spInteger [] E0 (tCons (tVar 2) tNil)) [2]) tNil))))))
        (start nSwapIn [.int n, .ref a]) H (!decide (V.int (xs.length : Int) = V.int 2) || !((xs.map integerV).all id)) := by
      refine et_is (et_or (a := false) (et_not (a := true) (et_B (ev_cb (ea_cons (ev_var (v := .ref a) rfl) (ea_cons ev_c ea_nil)) (rc_isi (kind_tup ha) (by decide +kernel))))) (fun _ =>
        et_or (et_test (ev_op (ev_cb (ea_cons (ev_var rfl) ea_nil) (rc_lenT ha)) ev_c (rv_ne rfl)))
          (fun _ => et_not (et_B (ev_allL (el_atoms (ev_var (v := .ref a) rfl) ha (by omega) (fun _ => rfl) (fun i x H1 e1 hi => ev_call (ea_cons (ev_var rfl) ea_nil) (fun H2 e2 Q2 q2 E2 => ⟨x, rfl, hat x (List.mem_of_getElem? hi), q2⟩)))))))) ?_
      rfl
    by_cases c : xs.length = 2
    · obtain ⟨x, y, rfl⟩ := two_of c
      by_cases c2 : (integerV x && (integerV y && true)) = true
      · refine q_when (b := false) (et_is hfirst ?_) (fun h => nomatch h) fun _ H1 e1 => ?_
        · show (!decide (V.int 2 = V.int 2) || !(integerV x && (integerV y && true))) = false
          rw [c2, decide_eq_true rfl]
          rfl
        · rw [Bool.and_true, Bool.and_eq_true] at c2
          obtain ⟨i, rfl⟩ := integerV_int c2.1
          obtain ⟨j, rfl⟩ := integerV_int c2.2
          have ha1 := st_of (K := K) (e1 _ _ ha)
          refine s_ret (ev_links (ev_c (v := .int 0)) (ev_op (ev_var (v := .ref a) rfl) (ev_c (v := .int 0)) (rv_ixT ha1 (atI_0 _ _))) rv_I0 (ev_op (ev_var (v := .ref a) rfl) (ev_c (v := .int 1)) (rv_ixT ha1 (atI_1 _ _))) rv_I0 (ev_var (v := .int n) rfl) rv_I0) (fun H2 e2 => q H2 (e1.trans e2))
      · rw [Bool.not_eq_true] at c2
        rw [swOk_big hn c2] at q
        refine q_when (b := true) (et_is hfirst ?_) (fun _ H1 e1 => s_ret ev_c (fun H2 e2 => q H2 (e1.trans e2))) (fun h => nomatch h)
        show (!decide (V.int 2 = V.int 2) || !(integerV x && (integerV y && true))) = true
        rw [c2]
        rw [Bool.not_false, Bool.or_true]
    · rw [swOk_len c] at q
      refine q_when (b := true) (et_is hfirst ?_) (fun _ H1 e1 => s_ret ev_c (fun H2 e2 => q H2 (e1.trans e2))) (fun h => nomatch h)
      rw [decide_eq_false (fun z => c (by have := V.int.inj z; omega))]
      rfl
/-! ### is_row_in -/
abbrev sRowIn : Stmt := topS 20
abbrev nRowIn : List Str := ["size", "value", "swap"]
theorem scRowIn : FnScope nRowIn ["size", "value"] (defScope sRowIn) := ⟨rfl, rfl, rfl, by decide +kernel, rfl, by decide +kernel, by decide +kernel⟩
def spRowIn : Sp := fun vs H Q _ => ∃ (n : Nat) (v : V) (d : Vl), vs = [.int n, v] ∧ VlAt H v d ∧ n ≤ 1000 ∧ RetV (.bl (rowOkB n d)) H Q
theorem its_get {H : Hp} {vs : List V} {its : List It} (h : Paired (ItAt H) vs its) {i : Nat} {x : V} (hi : vs[i]? = some x) : ∃ t, its[i]? = some t ∧ ItAt H x t := pr_get h hi
theorem ok_rowIn (D : DefAt K mg "is_row_in" sRowIn) (mi : mg "isinstance" = none) (mt : mg "tuple" = none) (ml : mg "len" = none) (ma : mg "all" = none) (gM : ∃ t, mg "MOST_ROW" = some (.int 200 t))
    (I : Has P w K mg base 3 "is_swap_in" ["size", "value"] spSwapIn) : Has P w K mg base 4 "is_row_in" ["size", "value"] spRowIn := by
  obtain ⟨tM, gM⟩ := gM
  refine has_of D scRowIn (fun _ _ _ _ _ _ us hl => match us, hl with | [_, _], _ => rfl) ?_ ?_
  · rintro vs H Q E ⟨_, _, _, rfl, _⟩
    rfl
  rintro f cdv A outer s H vs Q E hr ⟨n, v, d, rfl, hv, hn, q⟩
  refine ⟨_, pss_one (ps_ret (pe_and (pe_callB call_isi (by rfl) mi boot_isinstance (pa_cons (pv 1) (pa_cons (pe_bltn (v := .ty "tuple") (by rfl) mt boot_tuple rfl) pa_nil)))
      (pe_and (pe_cmpR op_le (pe_callB call_len_seq (by rfl) ml PySem.boot_len (pa_cons (pv 1) pa_nil)) (pe_glob (v := .int 200) (by rfl) gM ⟨_, rfl⟩) (nomark _))
      (pe_one (pe_callB (cr_all rfl) (by rfl) ma (by decide +kernel) (pa_cons (pe_lc (own := [("swap", 2)]) (g := gName 2) (tt := tYes) rfl scRowIn.nd (pi_tup (pv 1))
        (blkOk_by (own := [("swap", 2)]) (N := nRowIn) (sc := defScope sRowIn) (by decide +kernel))
        (fun _ _ _ _ _ => pg_name (i := 2) scRowIn.nd rfl (.inl rfl)) (fun _ _ _ _ _ => pts_nil)
        (fun _ _ _ _ _ => pe_has I hr (by rfl) (pa_cons (pv 0) (pa_cons (pv 2) pa_nil)))) pa_nil)))))), ?_⟩
  cases d with
  | no =>
    exact s_ret (ev_andV (a := false) (b := false) (ev_cb (ea_cons (ev_var (v := v) rfl) (ea_cons ev_c ea_nil)) (rc_isTup hv)) (fun h => nomatch h)) q
  | rw its =>
    obtain ⟨a, vs, rfl, ha, hp, hz⟩ := hv
    have hlen : vs.length = its.length := Paired.length hp
    have e : (List.range vs.length).map (fun i => V.bl (swOkB n (its.getD i .no))) = (its.map (swOkB n)).map V.bl := by
      rw [hlen, List.map_map]
      apply List.ext_getElem?
      intro i
      rw [List.getElem?_map,
        List.getElem?_map]
      by_cases c : i < its.length
      · rw [List.getElem?_range c, List.getElem?_eq_getElem c]
        show some (V.bl (swOkB n (its.getD i .no))) = _
        rw [List.getD_eq_getElem?_getD, List.getElem?_eq_getElem c] <;> rfl
      · rw [List.getElem?_eq_none (by simpa using c), List.getElem?_eq_none (by simpa using c)] <;> rfl
    have hl : EvL (tLc (iTup K (tVar 1)) (gName 2) tYes (tCall spSwapIn [] E0 (tCons (tVar 0) (tCons (tVar 2) tNil))) [2]) (start nRowIn [.int n, .ref a]) H ((its.map (swOkB n)).map V.bl) := by
      rw [← e]
      refine el_lcT _ (ev_var (v := .ref a) rfl) (st_of ha) (by omega) (fun _ => rfl) fun i x H1 e1 hi => ?_
      obtain ⟨t, ht, hx⟩ := its_get hp hi
      rw [List.getD_eq_getElem?_getD, ht]
      exact ev_call (ea_cons (ev_var (v := .int n) rfl) (ea_cons (ev_var (v := x) rfl) ea_nil)) (fun H2 e2 Q2 q2 E2 => ⟨n, x, t, rfl, hx.ex (e1.trans e2), hn, q2⟩)
    refine s_ret (ev_is (ev_andV (a := true) (ev_cb (ea_cons (ev_var (v := .ref a) rfl) (ea_cons ev_c ea_nil)) (rc_isi (kind_tup ha) (by decide +kernel)))
      (fun _ => ev_andV (ev_op (ev_cb (ea_cons (ev_var rfl) ea_nil) (rc_lenT ha)) (ev_c (v := .int 200)) rv_I0) (fun _ => ev_allL hl))) ?_) q
    show V.bl (true && (decide ((vs.length : Int) ≤ 200) && (its.map (swOkB n)).all id)) = V.bl (decide (its.length ≤ 200) && its.all (swOkB n))
    rw [Bool.true_and, hlen, List.all_map]
    have e2 : decide ((its.length : Int) ≤ 200) = decide (its.length ≤ 200) := by
      by_cases c : its.length ≤ 200
      · rw [decide_eq_true c, decide_eq_true (by omega)]
      · rw [decide_eq_false c, decide_eq_false (by omega)]
    rw [e2]
    rfl
/-! ### is_row_of -/
abbrev sIsRowOf : Stmt := topS 23
theorem scIsRowOf : FnScope ["move", "value"] ["move", "value"] (defScope sIsRowOf) := ⟨rfl, rfl, rfl, by decide +kernel, rfl, by decide +kernel, by decide +kernel⟩
def spIsRowOf : Sp := fun vs H Q _ => ∃ (n : Nat) (m : Addr) (mv : List Int) (v : V) (d : Vl), vs = [.ref m, v] ∧ IntsAt H m mv ∧ mv.Perm (rng n) ∧ 0 < n ∧ n ≤ 24 ∧ VlAt H v d ∧ RetV (.bl (judge n mv d)) H Q
theorem ok_isRowOf (D : DefAt K mg "is_row_of" sIsRowOf) (ml : mg "len" = none) (R : Has P w K mg base 5 "require_move" ["value"] spReqMove) (I : Has P w K mg base 4 "is_row_in" ["size", "value"] spRowIn)
    (J : Has P w K mg base 2 "product_in" ["size", "row"] spProduct) : Has P w K mg base 6 "is_row_of" ["move", "value"] spIsRowOf := by
  refine has_of D scIsRowOf (fun _ _ _ _ _ _ us hl => match us, hl with | [_, _], _ => rfl) ?_ ?_
  · rintro vs H Q E ⟨_, _, _, _, _, rfl, _⟩
    rfl
  rintro f cdv A outer s H vs Q E hr ⟨n, m, mv, v, d, rfl, hm, hp, h0, hn, hv, q⟩
  refine ⟨_, pss_cons (ps_expr (pe_has R hr (by rfl) (pa_cons (pv 0) pa_nil)))
    (pss_one (ps_ret (pe_and (pe_has I (hr.mono (by decide)) (by rfl) (pa_cons (pe_callB call_len_seq (by rfl) ml PySem.boot_len (pa_cons (pv 0) pa_nil)) (pa_cons (pv 1) pa_nil)))
      (pe_one (pe_cmpR (op_eqD hr.units) (pe_has J (hr.mono (by decide)) (by rfl) (pa_cons (pe_callB call_len_seq (by rfl) ml PySem.boot_len (pa_cons (pv 0) pa_nil)) (pa_cons (pv 1) pa_nil))) (pv 0) (nomark _)))))), ?_⟩
  have hlen : ∀ H1, Ex H H1 → RC (rLenS K) [.ref m] H1 (.int (n : Int)) := fun H1 e1 => by
    have := rc_lenT (K := K) (e1 _ _ hm)
    rw [List.length_map, hp.length_eq, rng_len] at this
    exact this
  refine q_drop (ev_call (ea_cons (ev_var (v := .ref m) rfl) ea_nil) (fun H1 e1 Q1 q1 E1 => ⟨n, m, mv, rfl, e1 _ _ hm, hp, h0, hn, q1⟩)) fun H1 e1 => ?_
  refine s_ret (v := .bl (judge n mv d)) (ev_andV (ev_call (ea_cons (ev_cb (ea_cons (ev_var (v := .ref m) rfl) ea_nil) (hlen H1 e1)) (ea_cons (ev_var (v := v) rfl) ea_nil)) (fun H2 e2 Q2 q2 E2 => ⟨n, v, d, rfl, hv.ex (e1.trans e2), by omega, q2⟩)) (fun hok => ?_)) (fun H2 e2 => q H2 (e1.trans e2))
  obtain ⟨a, rfl, hrow⟩ := rowAt_of hv hok
  refine fun H2 e2 Q2 q2 => ?_
  refine eu_call (xs := (prodL n (ssOf d)).map V.int) (ea_cons (ev_cb (ea_cons (ev_var (v := .ref m) rfl) ea_nil) (hlen H1 e1)) (ea_cons (ev_var (v := .ref a) rfl) ea_nil)) (fun H3 e3 Q3 q3 E3 => ⟨n, a, ssOf d, rfl, hrow.ex (TEx.of (e1.trans e3)), by omega, q3⟩) H2 e2 _ fun p H3 hp3 e3 h3 => ?_
  refine ⟨.ref m, rfl, rv_eqT (show IntsAt H3 p (prodL n (ssOf d)) from h3) (show IntsAt H3 m mv from ((e1.trans e2).trans e3) _ _ hm) H3 (Ex.refl H3) Q2 fun H4 e4 => q2 H4 (e3.trans e4)⟩
end
end K17
/-! the walk, sixth part: the law's own judging of rows, and a row of a told length -/
namespace K17
open PySem PySem.Spec PyProof.Rows L2 Evl
section
variable {P : Program} {w : World} {base : Heap} {K : PySem.W.Frag} {mg : Str → Option Value}
/-! ### _law_mv_is_row -/
theorem row_bad {n i : Nat} {its : List It} {t : It} (h : its[i]? = some t) (ht : swOkB n t = false) : rowOkB n (.rw its) = false := by
  show (decide (its.length ≤ 200) && its.all (swOkB n)) = false
  have : its.all (swOkB n) = false := by
    rw [List.all_eq_false]
    exact ⟨t, List.mem_of_getElem? h, by rw [ht]; exact Bool.false_ne_true⟩
  rw [this, Bool.and_false]
theorem take_all {n i : Nat} {its : List It} {t : It} (h : its[i]? = some t) (h1 : (its.take i).all (swOkB n) = true) (h2 : swOkB n t = true) : (its.take (i + 1)).all (swOkB n) = true := by
  rw [List.take_add_one, h, List.all_append, h1]
  show (true && ([t].all (swOkB n))) = true
  rw [List.all_cons, h2] <;> rfl
/-- whether a place is no int -/
theorem et_noInt {σ : L2.St} {H : Hp} {te : TE} {x : V} (hx : Atm x) (h : ∀ H1, Ex H H1 → Ev te σ H1 x) :
    EvT (tOr (tB (tCB (rIsi K) (tCons te (tCons (tC (.ty "bool")) tNil)))) (tNot (tB (tCB (rIsi K) (tCons te (tCons (tC (.ty "int")) tNil)))))) σ H (!wholeV x) := by
  have h0 := h H (Ex.refl H)
  rcases hx.cases with ⟨i, rfl⟩ | ⟨b, rfl⟩ | ⟨z, rfl⟩
  · exact et_is (et_or (a := false) (et_B (ev_cb (ea_cons h0 (ea_cons ev_c ea_nil)) (rc_isi (kind_int H i) (by decide +kernel)))) (fun _ => et_not (a := true) (et_B (ev_cb (ea_cons h0 (ea_cons ev_c ea_nil)) (rc_isi (kind_int H i) (by decide +kernel)))))) rfl
  · exact et_is (et_or (a := true) (b := true) (et_B (ev_cb (ea_cons h0 (ea_cons ev_c ea_nil)) (rc_isi (kind_bl H b) (by decide +kernel)))) (fun e => nomatch e)) rfl
  · exact et_is (et_or (a := false) (et_B (ev_cb (ea_cons h0 (ea_cons ev_c ea_nil)) (rc_isi (kind_str H z) (by decide +kernel)))) (fun _ => et_not (a := false) (et_B (ev_cb (ea_cons h0 (ea_cons ev_c ea_nil)) (rc_isi (kind_str H z) (by decide +kernel)))))) rfl
theorem swOk_atom {n : Nat} {x y : V} (h : (wholeV x && wholeV y) = false) : swOkB n (.pr [x, y]) = false := by
  unfold swOkB
  split
  · rename_i a b e
    cases e
    cases h
  · rfl
theorem whole_int {x : V} (h : wholeV x = true) : ∃ i, x = .int i := by
  cases x <;> first | exact ⟨_, rfl⟩ | (cases h)
abbrev sMvIsRow : Stmt := topS 35
theorem scMvIsRow : FnScope ["_law_size", "_law_row", "_law_swap", "_law_place"] ["_law_size", "_law_row"] (defScope sMvIsRow) := ⟨rfl, rfl, rfl, by decide +kernel, rfl, by decide +kernel, by decide +kernel⟩
theorem ok_mvIsRow (D : DefAt K mg "_law_mv_is_row" sMvIsRow) (mi : mg "isinstance" = none) (mt : mg "tuple" = none) (ml : mg "len" = none) (mb : mg "bool" = none) (mint : mg "int" = none) :
    Has P w K mg base 1 "_law_mv_is_row" ["_law_size", "_law_row"] spRowIn := by
  refine has_of D scMvIsRow (fun _ _ _ _ _ _ us hl => match us, hl with | [_, _], _ => rfl) ?_ ?_
  · rintro vs H Q E ⟨_, _, _, rfl, _⟩
    rfl
  rintro f cdv A outer s H vs Q E hr ⟨n, v, d, rfl, hv, hn, q⟩
  refine ⟨_, pss_cons (ps_if (PW.pt (pw_or (pt_not (pt_val (pe_callB call_isi (by rfl) mi boot_isinstance (pa_cons (pv 1) (pa_cons (pe_bltn (v := .ty "tuple") (by rfl) mt boot_tuple rfl) pa_nil)))))
        (pw_or1 (pt_cmpR op_gt (pe_callB call_len_seq (by rfl) ml PySem.boot_len (pa_cons (pv 1) pa_nil)) pe_int (nomark _))))) (pss_one (ps_ret pe_bl)) pss_nil)
    (pss_cons (ps_for PassesOwn.never rfl (pi_tup (pv 1)) (pg_name (i := 2) scMvIsRow.nd rfl (.inl rfl))
      (pss_cons (ps_if (PW.pt (pw_or (pt_not (pt_val (pe_callB call_isi (by rfl) mi boot_isinstance (pa_cons (pv 2) (pa_cons (pe_bltn (v := .ty "tuple") (by rfl) mt boot_tuple rfl) pa_nil)))))
          (pw_or1 (pt_cmpR op_ne (pe_callB call_len_seq (by rfl) ml PySem.boot_len (pa_cons (pv 2) pa_nil)) pe_int (nomark _))))) (pss_one (ps_ret pe_bl)) pss_nil)
      (pss_cons (ps_for PassesOwn.never rfl (pi_tup (pv 2)) (pg_name (i := 3) scMvIsRow.nd rfl (.inl rfl))
        (pss_one (ps_if (PW.pt (pw_or (pt_val (pe_callB call_isi (by rfl) mi boot_isinstance (pa_cons (pv 3) (pa_cons (pe_bltn (v := .ty "bool") (by rfl) mb boot_bool rfl) pa_nil))))
          (pw_or1 (pt_not (pt_val (pe_callB call_isi (by rfl) mi boot_isinstance (pa_cons (pv 3) (pa_cons (pe_bltn (v := .ty "int") (by rfl) mint boot_int rfl) pa_nil)))))))) (pss_one (ps_ret pe_bl)) pss_nil)))
      (pss_one (ps_if (pt_not (pt_links op_le op_lt op_lt pe_int (pe_ix ix_tup (pv 2) pe_int (fun _ _ => rfl)) (pe_ix ix_tup (pv 2) pe_int (fun _ _ => rfl)) (pv 0))) (pss_one (ps_ret pe_bl)) pss_nil)))))
    (pss_one
      (ps_ret pe_bl))), ?_⟩
  cases d with
  | no =>
    refine q_when (b := true) (et_or (a := true) (b := true) (et_not (a := false) (et_B (ev_cb (ea_cons (ev_var (v := v) rfl) (ea_cons ev_c ea_nil)) (rc_isTup hv)))) (fun h => nomatch h)) (fun _ H1 e1 => ?_) (fun h => nomatch h)
    exact s_ret ev_c (fun H2 e2 => q H2 (e1.trans e2))
  | rw its =>
    obtain ⟨a, vs, rfl, ha, hp, hz⟩ := hv
    have hlen : vs.length = its.length := Paired.length hp
    refine q_when (et_or (a := false) (et_not (a := true) (et_B (ev_cb (ea_cons (ev_var (v := .ref a) rfl) (ea_cons ev_c ea_nil)) (rc_isi (kind_tup ha) (by decide +kernel)))))
      (fun _ => et_test (ev_op (ev_cb (ea_cons (ev_var (v := .ref a) rfl) ea_nil) (rc_lenT ha)) (ev_c (v := .int 200)) rv_I0))) (fun hb H1 e1 => ?_) (fun hb H1 e1 => ?_)
    · have h200 : ¬ its.length ≤ 200 := by
        have := of_decide_eq_true ((Bool.false_or _).symm.trans hb)
        omega
      have e : rowOkB n (.rw its) = false := by
        show (decide (its.length ≤ 200) && its.all (swOkB n)) = false
        rw [decide_eq_false h200] <;> rfl
      rw [e] at q
      exact s_ret ev_c (fun H2 e2 => q H2 (e1.trans e2))
    have h200 : its.length ≤ 200 := by
      have := of_decide_eq_false ((Bool.false_or _).symm.trans hb)
      omega
    refine q_forT (ev_var (v := .ref a) rfl) (st_of (e1 _ _ ha)) (fun i σ' H' => ∃ y2 y3, σ' = [some (.int n), some (.ref a), y2, y3] ∧ Ex H H' ∧ (its.take i).all (swOkB n) = true)
      (fun H2 e2 => ⟨none, none, rfl, e1.trans e2, rfl⟩) ?_ ?_ ?_
    · rintro i σ' H' _ ⟨y2, y3, rfl, e', _⟩
      exact st_of (e' _ _ ha)
    · rintro i x σ' H' hx ⟨y2, y3, rfl, e', hall⟩
      obtain ⟨t, ht, hit⟩ := its_get hp hx
      cases t with
      | no =>
        rw [row_bad (n := n) ht rfl] at q
        refine q_when (b := true) (et_or (a := true) (b := true) (et_not (a := false) (et_B (ev_cb (ea_cons (ev_var (v := x) rfl) (ea_cons ev_c ea_nil)) (rc_isTup (NoTup.ex e' hit))))) (fun h => nomatch h)) (fun _ H2 e2 => ?_) (fun h => nomatch h)
        exact s_ret ev_c (fun H3 e3 => q H3 ((e'.trans e2).trans e3))
      | pr xs =>
        obtain ⟨p, rfl, hpx, hat, hz2⟩ := hit
        refine q_when (et_or (a := false) (et_not (a := true) (et_B (ev_cb (ea_cons (ev_var (v := .ref p) rfl) (ea_cons ev_c ea_nil)) (rc_isi (kind_tup (e' _ _ hpx)) (by decide +kernel)))))
          (fun _ => et_test (ev_op (ev_cb (ea_cons (ev_var (v := .ref p) rfl) ea_nil) (rc_lenT (e' _ _ hpx))) (ev_c (v := .int 2)) (rv_ne rfl)))) (fun hb2 H2 e2 => ?_) (fun hb2 H2 e2 => ?_)
        · have h2 : xs.length ≠ 2 := fun z => by
            rw [Bool.false_or, z] at hb2
            exact absurd hb2 (by decide)
          rw [row_bad ht (swOk_len h2)] at q
          exact s_ret ev_c (fun H3 e3 => q H3 ((e'.trans e2).trans e3))
        have h2 : xs.length = 2 := by
          by_cases c : xs.length = 2
          · exact c
          · rw [Bool.false_or, decide_eq_false (fun z => c (by have := V.int.inj z; omega))] at hb2
            cases hb2
        obtain ⟨x1, x2, rfl⟩ := two_of h2
        refine q_forT (ev_var (v := .ref p) rfl) (st_of (e2 _ _ (e' _ _ hpx))) (fun j σ' H' => ∃ y3, σ' = [some (.int n), some (.ref a), some (.ref p), y3] ∧ Ex H H' ∧ ([x1, x2].take j).all wholeV = true)
          (fun H3 e3 => ⟨y3, rfl, (e'.trans e2).trans e3, rfl⟩) ?_ ?_ ?_
        · rintro j σ' H' _ ⟨y3, rfl, e'', _⟩
          exact st_of (e'' _ _ hpx)
        · rintro j z σ' H' hz ⟨y3, rfl, e'', hw⟩
          refine s_when (et_noInt (x := z) (hat z (List.mem_of_getElem? hz)) (fun H3 e3 => ev_var rfl)) (fun hb3 H3 e3 => ?_) (fun hb3 H3 e3 => ?_)
          · have hbad : (wholeV x1 && wholeV x2) = false := by
              have hz' : wholeV z = false := by
                rw [← Bool.not_not (b := wholeV z), hb3]
                rfl
              match j, hz with
              | 0, hz =>
                cases Option.some.inj hz
                rw [hz', Bool.false_and]
              | 1, hz =>
                cases Option.some.inj hz
                rw [hz', Bool.and_false]
            rw [row_bad ht (swOk_atom hbad)] at q
            exact s_ret ev_c (fun H4 e4 => q H4 ((e''.trans e3).trans e4))
          · refine ⟨_, rfl, e''.trans e3, ?_⟩
            have hz' : wholeV z = true := by
              rw [← Bool.not_not (b := wholeV z), hb3]
              rfl
            rw [List.take_add_one, hz, List.all_append, hw]
            show (true && ([z].all wholeV)) = true
            rw [List.all_cons, hz'] <;> rfl
        · rintro σ' H' ⟨y3, rfl, e'', hw⟩
          have hw2 : (wholeV x1 && (wholeV x2 && true)) = true := hw
          rw [Bool.and_true, Bool.and_eq_true] at hw2
          obtain ⟨i1, rfl⟩ := whole_int hw2.1
          obtain ⟨i2, rfl⟩ := whole_int hw2.2
          have hpt := st_of (K := K) (e'' _ _ hpx)
          refine s_when (b := !swOkB n (.pr [.int i1, .int i2])) (et_not (et_test (ev_links (ev_c (v := .int 0)) (ev_op (ev_var (v := .ref p) rfl) (ev_c (v := .int 0)) (rv_ixT hpt (atI_0 _ _))) rv_I0 (ev_op (ev_var (v := .ref p) rfl) (ev_c (v := .int 1)) (rv_ixT hpt (atI_1 _ _))) rv_I0 (ev_var (v := .int n) rfl) rv_I0)))
            (fun hb3 H3 e3 => ?_) (fun hb3 H3 e3 => ?_)
          · have hbad : swOkB n (.pr [.int i1, .int i2]) = false := by
              rw [← Bool.not_not (b := swOkB n _), hb3]
              rfl
            rw [row_bad ht hbad] at q
            exact s_ret ev_c (fun H4 e4 => q H4 ((e''.trans e3).trans e4))
          · have hgood : swOkB n (.pr [.int i1, .int i2]) = true := by
              rw [← Bool.not_not (b := swOkB n _), hb3]
              rfl
            exact ⟨_, _, rfl, e''.trans e3, take_all ht hall hgood⟩
    · rintro σ' H' ⟨y2, y3, rfl, e', hall⟩
      have e : rowOkB n (.rw its) = true := by
        show (decide (its.length ≤ 200) && its.all (swOkB n)) = true
        rw [hlen, List.take_length] at hall
        rw [decide_eq_true h200, hall] <;> rfl
      rw [e] at q
      exact s_ret ev_c (fun H2 e2 => q H2 (e'.trans e2))
end
end K17
/-! the walk, seventh part: a row of a told length -/
namespace K17
open PySem PySem.Spec PyProof.Rows L2 Evl
section
variable {K : PySem.W.Frag} {σ : L2.St} {H : Hp} {te : TE} {D : Ends} {tz : TS}
/-- what makes a row -/
def EvR (te : TE) (σ : L2.St) (H : Hp) (ss : List (Int × Int)) : Prop := ∀ H1, Ex H H1 → ∀ Q : VK, (∀ p H2, H1 p = none → Ex H1 H2 → RowAt H2 p ss → Q (.ref p) H2) → te σ H1 Q
theorem er_call {sp : Sp} {vs : List V} {ss : List (Int × Int)} {E : XK} {ta : TA} (h : EvA ta σ H vs) (hs : ∀ H1, Ex H H1 → ∀ Q : VK, RetRow ss H1 Q → ∀ E : XK, sp (vs ++ []) H1 Q E) : EvR (tCall sp [] E ta) σ H ss := fun H1 e Q q =>
  h H1 e _ fun H2 e2 => hs H2 (e.trans e2) Q (fun p H3 np e3 at3 =>
    q p H3 (fresh_back e2 np) (e2.trans e3) at3) E
theorem q_asgR {i : Nat} {ss : List (Int × Int)} (h : EvR te σ H ss) (k : ∀ p H1, H p = none → Ex H H1 → RowAt H1 p ss → tz D (σ.set i (some (.ref p))) H1) : tSeq (tAsg te (gName i)) tz D σ H := h H (Ex.refl H) _ fun p H1 hp e h1 => k p H1 hp e h1
theorem s_asgR {i : Nat} {ss : List (Int × Int)} (h : EvR te σ H ss) (k : ∀ p H1, H p = none → Ex H H1 → RowAt H1 p ss → D.nx (σ.set i (some (.ref p))) H1) : tAsg te (gName i) D σ H := h H (Ex.refl H) _ fun p H1 hp e h1 => k p H1 hp e h1
theorem row_len {p : Addr} {ss : List (Int × Int)} (h : RowAt H p ss) : RC (rLenS K) [.ref p] H (.int (ss.length : Int)) := by
  obtain ⟨as, h1, h2⟩ := h
  have := rc_lenT (K := K) h1
  rw [List.length_map, Paired.length h2] at this
  exact this
end
theorem sws_rep {H : Hp} {t : Addr} {s : Int × Int} (h : SwAt H t s) : ∀ k, SwsAt H (List.replicate k t) (List.replicate k s)
  | 0 => .nil
  | k + 1 => .cons h (sws_rep h k)
theorem flat_rep (t : Addr) : ∀ k, (List.replicate k [V.ref t]).flatten = (List.replicate k t).map V.ref
  | 0 => rfl
  | k + 1 => by
    rw [List.replicate_succ, List.flatten_cons, flat_rep t k, List.replicate_succ, List.map_cons]
    rfl
section
variable {P : Program} {w : World} {base : Heap} {K : PySem.W.Frag} {mg : Str → Option Value}
abbrev sRowOf : Stmt := topS 22
theorem scRowOf : FnScope ["move", "many", "found", "more"] ["move", "many"] (defScope sRowOf) := ⟨rfl, rfl, rfl, by decide +kernel, rfl, by decide +kernel, by decide +kernel⟩
/-- None, or a row -/
def RetRow? (r : Option (List (Int × Int))) (H : Hp) (Q : VK) : Prop := match r with
  | none => RetV .non H Q
  | some ss => RetRow ss H Q
def spRowOf : Sp := fun vs H Q _ => ∃ (n : Nat) (m : Addr) (mv : List Int) (many : Int), vs = [.ref m, .int many] ∧ IntsAt H m mv ∧ mv.Perm (rng n) ∧ 0 < n ∧ n ≤ 24 ∧ 0 ≤ many ∧ many ≤ 200 ∧ RetRow? (rowOf mv many) H Q
theorem ok_rowOf (D : DefAt K mg "row_of" sRowOf) (ml : mg "len" = none) (gM : ∃ t, mg "MOST_ROW" = some (.int 200 t)) (R : Has P w K mg base 5 "require_move" ["value"] spReqMove)
    (I : Has P w K mg base 4 "require_within" ["value", "least", "most"] spReqWithin) (S : Has P w K mg base 2 "strict_in" ["move"] spStrict) : Has P w K mg base 6 "row_of" ["move", "many"] spRowOf := by
  obtain ⟨tM, gM⟩ := gM
  refine has_of D scRowOf (fun _ _ _ _ _ _ us hl => match us, hl with | [_, _], _ => rfl) ?_ ?_
  · rintro vs H Q E ⟨_, _, _, _, rfl, _⟩
    rfl
  rintro f cdv A outer s H vs Q E hr ⟨n, m, mv, many, rfl, hm, hp, h0, hn, hk0, hk1, q⟩
  refine ⟨_, pss_cons (ps_expr (pe_has R hr (by rfl) (pa_cons (pv 0) pa_nil)))
    (pss_cons (ps_expr (pe_has I (hr.mono (by decide)) (by rfl) (pa_cons (pv 1) (pa_cons pe_int (pa_cons (pe_glob (v := .int 200) (by rfl) gM ⟨_, rfl⟩) pa_nil)))))
    (pss_cons (ps_set (i := 2) scRowOf.nd rfl (.inl rfl) (pe_has S (hr.mono (by decide)) (by rfl) (pa_cons (pv 0) pa_nil)))
    (pss_cons (ps_set (i := 3) scRowOf.nd rfl (.inl rfl) (pe_op op_sub (pv 1) (pe_callB call_len_seq (by rfl) ml PySem.boot_len (pa_cons (pv 2) pa_nil))))
    (pss_cons (ps_if (PW.pt (pw_or (pt_cmpR op_lt (pv 3) pe_int (nomark _)) (pw_or (pt_cmpR op_eq (pe_op op_mod (pv 3) pe_int) pe_int (nomark _))
        (pw_or1 (PW.pt (pw_and (pt_cmpR op_gt (pv 3) pe_int (nomark _)) (pw_and1 (pt_cmpR op_eq (pe_callB call_len_seq (by rfl) ml PySem.boot_len (pa_cons (pv 0) pa_nil)) pe_int (nomark _)))))))))
      (pss_one (ps_ret pe_non)) pss_nil)
    (pss_one (ps_ret (pe_tup (StX.pa_star (pv 2) (StX.pa_star (pe_op op_rep (pe_lst (pa_cons (pe_tup (pa_cons pe_int (pa_cons pe_int pa_nil))) pa_nil)) (pv 3)) pa_nil))))))))), ?_⟩
  have hmv := Mv.of_perm hp
  have hlen : mv.length = n := hmv.len
  have hb : (200 : Int) < big := by decide
  refine q_drop (ev_call (ea_cons (ev_var (v := .ref m) rfl) ea_nil) (fun H1 e1 Q1 q1 E1 => ⟨n, m, mv, rfl, e1 _ _ hm, hp, h0, hn, q1⟩)) fun H1 e1 => ?_
  refine q_drop (ev_call (ea_cons (ev_var (v := .int many) rfl) (ea_cons (ev_c (v := .int 0)) (ea_cons (ev_c (v := .int 200)) ea_nil))) (fun H2 e2 Q1 q1 E1 => ⟨many, 0, 200, rfl, hk0, hk1, by omega, by omega, q1⟩)) fun H2 e2 => ?_
  refine q_asgR (ss := strictL mv) (er_call (ea_cons (ev_var (v := .ref m) rfl) ea_nil) (fun H3 e3 Q1 q1 E1 => ⟨m, n, mv, rfl, ((e1.trans e2).trans e3) _ _ hm, hmv, h0, by omega, q1⟩)) fun p H3 hp3 e3 hR => ?_
  have e13 := (e1.trans e2).trans e3
  refine q_asg (ev_op (ev_var (v := .int many) rfl) (ev_cb (ea_cons (ev_var (v := .ref p) rfl) ea_nil) (row_len hR)) rv_I0) fun H4 e4 => ?_
  have hml : RC (rLenS K) [.ref m] H4 (.int (n : Int)) := by
    have := rc_lenT (K := K) ((e13.trans e4) _ _ hm)
    rw [List.length_map, hlen] at this
    exact this
  have hsl : (strictL mv).length ≤ 1000 := by
    have := strict_len h0 hmv
    omega
  generalize hmore : many - ((strictL mv).length : Int) = more
  refine q_when (et_or (et_test (ev_op (ev_var (v := .int more) rfl) (ev_c (v := .int 0)) rv_I0)) (fun _ => et_or (et_test (ev_op (ev_op (ev_var (v := .int more) rfl) (ev_c (v := .int 2)) (rv_I (show (0 : Int) < 2 by decide))) (ev_c (v := .int 1)) (rv_eq rfl)))
    (fun _ => et_and (et_test (ev_op (ev_var (v := .int more) rfl) (ev_c (v := .int 0)) rv_I0)) (fun _ => et_test (ev_op (ev_cb (ea_cons (ev_var (v := .ref m) rfl) ea_nil) hml) (ev_c (v := .int 1)) (rv_eq rfl)))))) (fun hb1 H5 e5 => ?_) (fun hb1 H5 e5 => ?_)
  · have hc : more < 0 ∨ more % 2 = 1 ∨ (0 < more ∧ mv.length = 1) := by
      rw [Bool.or_eq_true, Bool.or_eq_true, Bool.and_eq_true] at hb1
      rcases hb1 with h | h | ⟨h, h'⟩
      · exact .inl (of_decide_eq_true h)
      · exact .inr (.inl (V.int.inj (of_decide_eq_true h)))
      · refine .inr (.inr ⟨of_decide_eq_true h, ?_⟩)
        have := V.int.inj (of_decide_eq_true h')
        omega
    have e : rowOf mv many = none := by
      unfold rowOf
      rw [hmore, if_pos hc]
    rw [e] at q
    exact s_ret ev_c (fun H6 e6 => q H6 (((e13.trans e4).trans e5).trans e6))
  · have hc : ¬ (more < 0 ∨ more % 2 = 1 ∨ (0 < more ∧ mv.length = 1)) := fun z => by
      rw [Bool.or_eq_false_iff, Bool.or_eq_false_iff, Bool.and_eq_false_iff] at hb1
      obtain ⟨g1, g2, g3⟩ := hb1
      rcases z with z | z | ⟨z, z'⟩
      · exact of_decide_eq_false g1 z
      · exact of_decide_eq_false g2 (by rw [z])
      · rcases g3 with g3 | g3
        · exact of_decide_eq_false g3 z
        · refine of_decide_eq_false g3 (congrArg V.int ?_)
          omega
    have e : rowOf mv many = some (strictL mv ++ List.replicate more.toNat (0, 1)) := by
      unfold rowOf
      rw [hmore, if_neg hc]
    rw [e] at q
    obtain ⟨as, hR1, hR2⟩ := hR
    have e05 := (e13.trans e4).trans e5
    have l5 : H5 p = some (.tup (as.map V.ref)) := (e4.trans e5) _ _ hR1
    have hal := Paired.length hR2
    have hmb : 0 ≤ more ∧ more ≤ 200 := by omega
    -- (*found, *[(0, 1)] * more)
    refine ⟨.ref p, rfl, p, as.map V.ref, rfl, .inl (st_of l5), ?_⟩
    refine ⟨by show 2 ≤ sizeLine; decide, fun t ht => ?_⟩
    refine ⟨by show 1 ≤ sizeLine; decide, fun l hl => ?_⟩
    have E1 : Ex H5 (upd H5 t (.tup [.int 0, .int 1])) := Ex.new ht
    have E2 : Ex (upd H5 t (.tup [.int 0, .int 1])) (upd (upd H5 t (.tup [.int 0, .int 1])) l (.lst [.ref t])) := Ex.new hl
    refine ⟨.int more, rfl, l, more, [.ref t], rfl, rfl, upd_same, by omega, by omega, ?_, fun r hr' => ?_⟩
    · refine sz_of ?_
      show 1 * more.toNat ≤ 100000
      omega
    have E3 := Ex.new (o := .lst (List.replicate more.toNat [V.ref t]).flatten) hr'
    have E := (E1.trans E2).trans E3
    refine ⟨r, (List.replicate more.toNat t).map V.ref, rfl, .inr (sq_of (by rw [upd_same, flat_rep])), ?_⟩
    refine ⟨sz_of ?_, fun u hu => ?_⟩
    · rw [List.append_nil, List.length_append, List.length_map, List.length_map, List.length_replicate, hal]
      omega
    have E4 := Ex.new (o := .tup (as.map V.ref ++ ((List.replicate more.toNat t).map V.ref ++ []))) hu
    refine q u _ (fresh_back (e05.trans E) hu) ((e05.trans E).trans E4) ⟨as ++ List.replicate more.toNat t, ?_, ?_⟩
    · rw [upd_same, List.append_nil, List.map_append]
    · refine pr_append (hR2.ex (TEx.of (((e4.trans e5).trans E).trans E4))) (sws_rep ?_ _)
      exact E4 _ _ (E3 _ _ (E2 _ _ upd_same))
end
end K17
/-! the walk, eighth part: the law's own cycles, and whether so many swaps can make a move -/
namespace K17
open PySem PySem.Spec PyProof.Rows L2 Evl
section
variable {K : PySem.W.Frag} {σ : L2.St} {H : Hp} {te : TE}
theorem eu_tupOfV {p : Addr} {xs : List V} (h : Ev te σ H (.ref p)) (hp : H p = some (.lst xs)) : EvU (tThen te (kTup K)) σ H xs := fun H1 e Q q =>
  h H1 e _ fun H2 e2 => .inl ⟨p, xs, rfl, sq_of (e2 _ _ (e _ _ hp)), fun l hl => q l _ (fresh_back e2 hl) (e2.trans (Ex.new hl)) upd_same⟩
end
theorem flat_ints : ∀ ms : List Int, (ms.map V.int).all flatV = true
  | [] => rfl
  | m :: r => by
    rw [List.map_cons, List.all_cons, flat_ints r]
    rfl
theorem in_ints (z : Int) : ∀ ms : List Int, inV (.int z) (ms.map V.int) = decide (z ∈ ms)
  | [] => (decide_eq_false List.not_mem_nil).symm
  | m :: r => by
    have ih := in_ints z r
    unfold inV at ih ⊢
    rw [List.map_cons, List.any_cons, ih]
    show ((m == z) || decide (z ∈ r)) = decide (z ∈ m :: r)
    by_cases c : m = z
    · subst c
      simp
    · rw [beq_eq_false_iff_ne.mpr c, Bool.false_or]
      by_cases d : z ∈ r
      · rw [decide_eq_true d, decide_eq_true (List.mem_cons_of_mem _ d)]
      · rw [decide_eq_false d, decide_eq_false (fun h => by
          rcases List.mem_cons.mp h with h | h
          · exact c h.symm
          · exact d h)]
/-- what stands between the law's turns: the lists found (fo), met (me) -/
structure CyD (H : Hp) (fo me : Addr) (n : Nat) (mv : List Int) (i : Nat) (fl : List V) (met : List Int) (H' : Hp) : Prop where
  ex : Ex H H'
  nf : H fo = none
  nm : H me = none
  ne : fo ≠ me
  fll : H' fo = some (.lst fl)
  ml : H' me = some (.lst (met.map V.int))
  mt : Met (fn mv) i met fl.length
  z1 : fl.length ≤ i
  z2 : met.length ≤ 24 * i
theorem CyD.more {H H' H1 : Hp} {fo me : Addr} {n : Nat} {mv : List Int} {i : Nat} {fl : List V} {met : List Int} (X : CyD H fo me n mv i fl met H') (e : Ex H' H1) : CyD H fo me n mv i fl met H1 :=
  ⟨X.ex.trans e, X.nf, X.nm, X.ne, e _ _ X.fll, e _ _ X.ml, X.mt, X.z1, X.z2⟩
/-- a list of the turn's own changes -/
theorem CyD.own {H H' : Hp} {fo me cy : Addr} {n : Nat} {mv : List Int} {i : Nat} {fl : List V} {met : List Int} {o : HO} (X : CyD H fo me n mv i fl met H') (hc : H cy = none) (h1 : cy ≠ fo) (h2 : cy ≠ me) : CyD H fo me n mv i fl met (upd H' cy o) :=
  ⟨X.ex.mut hc, X.nf, X.nm, X.ne, by rw [upd_ne h1.symm]; exact X.fll, by rw [upd_ne h2.symm]; exact X.ml, X.mt, X.z1, X.z2⟩
section
variable {P : Program} {w : World} {base : Heap} {K : PySem.W.Frag} {mg : Str → Option Value}
abbrev sCycles : Stmt := topS 34
theorem scCycles : FnScope ["_law_move", "_law_found", "_law_met", "_law_start", "_law_cycle", "_law_place"] ["_law_move"] (defScope sCycles) := ⟨rfl, rfl, rfl, by decide +kernel, rfl, by decide +kernel, by decide +kernel⟩
def spCycles : Sp := fun vs H Q _ => ∃ (m : Addr) (n : Nat) (mv : List Int), vs = [.ref m] ∧ IntsAt H m mv ∧ Mv n mv ∧ 0 < n ∧ n ≤ 24 ∧ ∀ p H2 xs, H p = none → Ex H H2 → H2 p = some (.lst xs) → xs.length = cnt (fn mv) n → Q (.ref p) H2
theorem ok_cycles (D : DefAt K mg "_law_mv_cycles" sCycles) (mr : mg "range" = none) (ml : mg "len" = none) (mt : mg "tuple" = none) : Has P w K mg base 1 "_law_mv_cycles" ["_law_move"] spCycles := by
  refine has_of D scCycles (fun _ _ _ _ _ _ us hl => match us, hl with | [_], _ => rfl) ?_ ?_
  · rintro vs H Q E ⟨_, _, _, rfl, _⟩
    rfl
  rintro f cdv A outer s H vs Q E hr ⟨m, n, mv, rfl, hm, hmv, h0, hn, q⟩
  refine ⟨_, pss_cons (ps_par (i := 1) (j := 2) rfl scCycles.nd rfl rfl (by decide) rfl rfl (pa_cons (pe_lst pa_nil) (pa_cons (pe_lst pa_nil) pa_nil)) (by rfl))
    (pss_cons (ps_for PassesOwn.never rfl (pi_range1 (by rfl) mr (pa_cons (pe_callB call_len_seq (by rfl) ml PySem.boot_len (pa_cons (pv 0) pa_nil)) pa_nil)) (pg_name (i := 3) scCycles.nd rfl (.inl rfl))
      (pss_one (ps_if (pt_cmpR op_notIn_seq (pv 3) (pv 2) (by rfl))
        (pss_cons (ps_par (i := 4) (j := 5) rfl scCycles.nd rfl rfl (by decide) rfl rfl (pa_cons (pe_lst (pa_cons (pv 3) pa_nil)) (pa_cons (pe_ix ix_tup (pv 0) (pv 3) (fun _ _ => rfl)) pa_nil)) (by rfl))
        (pss_cons (ps_while PassesOwn.never (pt_cmpR op_ne (pv 5) (pv 3) (nomark _))
          (pss_cons (ps_expr (pe_bm PySem.F.plainAttrs_list PySem.F.slot_list_append PySem.F.type_list_append mt_append (pv 4) (pa_cons (pv 5) pa_nil)))
          (pss_one (ps_set (i := 5) scCycles.nd rfl (.inl rfl) (pe_ix ix_tup (pv 0) (pv 5) (fun _ _ => rfl))))))
        (pss_cons (ps_expr (pe_bm PySem.F.plainAttrs_list PySem.F.slot_list_extend PySem.F.type_list_extend mt_extend (pv 2) (pa_cons (pv 4) pa_nil)))
        (pss_one (ps_expr (pe_bm PySem.F.plainAttrs_list PySem.F.slot_list_append PySem.F.type_list_append mt_append (pv 1) (pa_cons (pe_tupleOf (by rfl) mt (pv 4)) pa_nil)))))))
        pss_nil)))
    (pss_one
      (ps_ret (pv 1)))), ?_⟩
  have fr : ∀ x, x < n → fn mv x < n := fun x hx => (hmv.at hx).2
  have fi : ∀ x y, x < n → y < n → fn mv x = fn mv y → x = y := fun x y hx hy e => hmv.inj hx hy e
  -- found, met = [], []
  refine ⟨Nat.zero_le _, fun fo nfo => ⟨Nat.zero_le _, fun me nme => ⟨.ref fo, .ref me, rfl, ?_⟩⟩⟩
  have e1 : Ex H (upd H fo (.lst [])) := Ex.new nfo
  have e2 : Ex (upd H fo (.lst [])) (upd (upd H fo (.lst [])) me (.lst [])) := Ex.new nme
  have nme0 : H me = none := fresh_back e1 nme
  have hne : fo ≠ me := fun z => by
    rw [← z, upd_same] at nme
    cases nme
  have X0 : CyD H fo me n mv 0 [] [] (upd (upd H fo (.lst [])) me (.lst [])) := ⟨e1.trans e2, nfo, nme0, hne, by rw [upd_ne hne, upd_same], upd_same, Met.zero _, Nat.le_refl _, Nat.le_refl _⟩
  have hlen : RC (rLenS K) [.ref m] (upd (upd H fo (.lst [])) me (.lst [])) (.int (n : Int)) := by
    have := rc_lenT (K := K) ((e1.trans e2) _ _ hm)
    rw [List.length_map, hmv.len] at this
    exact this
  dsimp only
  refine q_forR1 (n := (n : Int)) (ea_cons (ev_cb (ea_cons (ev_var (v := .ref m) rfl) ea_nil) hlen) ea_nil) (by omega)
    (fun i σ' H' => ∃ y3 y4 y5 fl met, σ' = [some (.ref m), some (.ref fo), some (.ref me), y3, y4, y5] ∧ CyD H fo me n mv i fl met H') (fun H1 e => ⟨none, none, none, [], [], rfl, X0.more e⟩) ?_ ?_
  · rintro i σ' H' hi ⟨y3, y4, y5, fl, met, rfl, X⟩
    have hin : i < n := by omega
    have hmem := X.mt.new fr fi hin
    refine s_when (et_test (ev_op (ev_var (v := .int (i : Int)) rfl) (ev_var (v := .ref me) rfl) (rv_niL (sq_of X.ml) rfl (flat_ints met)))) (fun hb H1 e => ?_) (fun hb H1 e => ?_)
    · rw [in_ints] at hb
      have hnot : (i : Int) ∉ met := fun z => by
        rw [decide_eq_true z] at hb
        cases hb
      obtain ⟨per, hp0, hp1, hp2⟩ := period fr fi hin
      have hpn := met_len fr fi hin hp1 hp2
      have X1 := X.more e
      -- cycle, place = [start], move[start]
      refine ⟨.int (i : Int), rfl, by show 1 ≤ sizeLine; decide, fun cy ncy => ?_⟩
      have e3 : Ex H1 (upd H1 cy (.lst [.int (i : Int)])) := Ex.new ncy
      have c1 : cy ≠ fo := fun z => by
        rw [z, X1.fll] at ncy
        cases ncy
      have c2 : cy ≠ me := fun z => by
        rw [z, X1.ml] at ncy
        cases ncy
      have ncy0 : H cy = none := fresh_back X1.ex ncy
      have X2 := X1.more e3
      refine ⟨.ref m, rfl, .int (i : Int), rfl, m, mv.map V.int, (i : Int), .int (fn mv i : Nat), rfl, rfl, st_of (X2.ex _ _ hm), mv_atI hmv hin, .ref cy, .int (fn mv i : Nat), rfl, ?_⟩
      dsimp only
      -- the while
      refine q_while (fun μ σ' H' => ∃ c, μ = per - c ∧ 1 ≤ c ∧ c ≤ per ∧ σ' = [some (.ref m), some (.ref fo), some (.ref me), some (.int (i : Int)), some (.ref cy), some (.int ((it (fn mv) c i : Nat) : Int))] ∧
        H' cy = some (.lst ((cyc (fn mv) i c).map V.int)) ∧ CyD H fo me n mv i fl met H') (per - 1) ⟨1, rfl, Nat.le_refl _, hp0, rfl, upd_same, X2⟩ ?_
      rintro μ σ' H' ⟨c, rfl, hc1, hc2, rfl, hcy, X3⟩
      refine ⟨_, et_test (ev_op (ev_var (v := .int ((it (fn mv) c i : Nat) : Int)) rfl) (ev_var (v := .int (i : Int)) rfl) (rv_ne rfl)), fun hb2 H4 e4 => ?_, fun hb2 H4 e4 => ?_⟩
      · have hne2 : it (fn mv) c i ≠ i := fun z => by
          rw [z, decide_eq_true rfl] at hb2
          cases hb2
        have hcp : c < per := by
          by_cases z : c = per
          · rw [z] at hne2
            exact absurd hp1 hne2
          · omega
        have hlt : it (fn mv) c i < n := it_lt fr hin c
        have X4 := X3.more e4
        refine ⟨_, fun σ2 H2 z => z, ?_⟩
        refine q_app (l := cy) (e4 _ _ hcy) (ev_var (v := .ref cy) rfl) (ev_var (v := .int ((it (fn mv) c i : Nat) : Int)) rfl) (by rw [List.length_map, cyc_len]; omega) fun H5 e5 => ?_
        have X5 := (X4.more e5).own (o := .lst ((cyc (fn mv) i c).map V.int ++ [.int ((it (fn mv) c i : Nat) : Int)])) ncy0 c1 c2
        refine s_asg (ev_op (ev_var (v := .ref m) rfl) (ev_var (v := .int ((it (fn mv) c i : Nat) : Int)) rfl) (rv_ixT (st_of (X5.ex _ _ hm)) (mv_atI hmv hlt))) fun H6 e6 => ?_
        refine ⟨per - (c + 1), by omega, c + 1, rfl, by omega, by omega, rfl, e6 _ _ ?_, X5.more e6⟩
        rw [upd_same, cyc_snoc, List.map_append]
        rfl
      · have heq : it (fn mv) c i = i := by
          by_cases z : it (fn mv) c i = i
          · exact z
          · rw [decide_eq_false (fun y => z (by have := V.int.inj y; omega))] at hb2
            cases hb2
        have hcp : c = per := by
          by_cases z : c = per
          · exact z
          · exact absurd heq (hp2 c (by omega) (by omega))
        have X4 := X3.more e4
        have hz : (met.map V.int).length + ((cyc (fn mv) i c).map V.int).length ≤ 100000 := by
          rw [List.length_map, List.length_map, cyc_len]
          have := X4.z2
          omega
        -- met.extend(cycle)
        refine ⟨.ref me, rfl, .inl ⟨rfl, _, sq_of X4.ml⟩, .ref cy, rfl, me, cy, _, _, rfl, rfl, X4.ml, e4 _ _ hcy, sz_of hz, ?_⟩
        have l5 : (upd H4 me (.lst (met.map V.int ++ (cyc (fn mv) i c).map V.int))) cy = some (.lst ((cyc (fn mv) i c).map V.int)) := by
          rw [upd_ne c2]
          exact e4 _ _ hcy
        have f5 : (upd H4 me (.lst (met.map V.int ++ (cyc (fn mv) i c).map V.int))) fo = some (.lst fl) := by
          rw [upd_ne X4.ne]
          exact X4.fll
        -- found.append(tuple(cycle))
        refine s_appU (l := fo) (ys := (cyc (fn mv) i c).map V.int) f5 (ev_var (v := .ref fo) rfl) (eu_tupOfV (ev_var (v := .ref cy) rfl) l5) (by have := X4.z1; omega) fun p H6 hp6 e6 h6 => ?_
        refine ⟨_, _, _, fl ++ [.ref p], met ++ cyc (fn mv) i c, rfl, ⟨?_, X4.nf, X4.nm, X4.ne, upd_same, ?_, ?_, ?_, ?_⟩⟩
        · exact Ex.mut ((X4.ex.mut X4.nm).trans e6) X4.nf
        · rw [upd_ne X4.ne.symm, List.map_append]
          exact e6 _ _ upd_same
        · rw [List.length_append, List.length_singleton, hcp]
          exact X4.mt.add fr fi hin hnot hp0 hp1
        · rw [List.length_append,
            List.length_singleton]
          have := X4.z1
          omega
        · rw [List.length_append, cyc_len]
          have := X4.z2
          omega
    · rw [in_ints] at hb
      have hyes : (i : Int) ∈ met := by
        by_cases z : (i : Int) ∈ met
        · exact z
        · rw [decide_eq_false z] at hb
          cases hb
      have X1 := X.more e
      refine ⟨_, y4, y5, fl, met, rfl, ⟨X1.ex, X1.nf, X1.nm, X1.ne, X1.fll, X1.ml, X1.mt.old fr fi hin hyes, ?_, ?_⟩⟩
      · have := X1.z1
        omega
      · have := X1.z2
        omega
  · rintro σ' H' ⟨y3, y4, y5, fl, met, rfl, X⟩
    refine ⟨.ref fo, rfl, q fo H' fl X.nf X.ex X.fll ?_⟩
    have := X.mt.num
    rw [show (n : Int).toNat = n by omega] at this
    exact this
/-! ### _law_can_be -/
noncomputable def canB (n : Nat) (mv : List Int) (many : Int) : Bool := decide ((n : Int) - (cnt (fn mv) n : Nat) ≤ many) && (decide ((many - ((n : Int) - (cnt (fn mv) n : Nat))) % 2 = 0) && (decide ((1 : Int) < n) || decide (many = 0)))
theorem canB_iff {n : Nat} {mv : List Int} {many : Int} : canB n mv many = true ↔ canBe n ((n : Int) - (cnt (fn mv) n : Nat)) many := by
  unfold canB canBe
  rw [Bool.and_eq_true, Bool.and_eq_true, Bool.or_eq_true, decide_eq_true_eq, decide_eq_true_eq, decide_eq_true_eq, decide_eq_true_eq]
  constructor
  · rintro ⟨h1, h2, h3⟩
    exact ⟨h1, h2, by omega⟩
  · rintro ⟨h1, h2, h3⟩
    exact ⟨h1, h2, by omega⟩
abbrev sCanBe : Stmt := topS 36
theorem scCanBe : FnScope ["_law_move", "_law_many", "_law_least"] ["_law_move", "_law_many"] (defScope sCanBe) := ⟨rfl, rfl, rfl, by decide +kernel, rfl, by decide +kernel, by decide +kernel⟩
def spCanBe : Sp := fun vs H Q _ => ∃ (m : Addr) (n : Nat) (mv : List Int) (many : Int), vs = [.ref m, .int many] ∧ IntsAt H m mv ∧ Mv n mv ∧ 0 < n ∧ n ≤ 24 ∧ RetV (.bl (canB n mv many)) H Q
theorem ok_canBe (D : DefAt K mg "_law_can_be" sCanBe) (ml : mg "len" = none) (C : Has P w K mg base 1 "_law_mv_cycles" ["_law_move"] spCycles) : Has P w K mg base 2 "_law_can_be" ["_law_move", "_law_many"] spCanBe := by
  refine has_of D scCanBe (fun _ _ _ _ _ _ us hl => match us, hl with | [_, _], _ => rfl) ?_ ?_
  · rintro vs H Q E ⟨_, _, _, _, rfl, _⟩
    rfl
  rintro f cdv A outer s H vs Q E hr ⟨m, n, mv, many, rfl, hm, hmv, h0, hn, q⟩
  refine ⟨_, pss_cons (ps_set (i := 2) scCanBe.nd rfl (.inl rfl) (pe_op op_sub (pe_callB call_len_seq (by rfl) ml PySem.boot_len (pa_cons (pv 0) pa_nil)) (pe_callB call_len_seq (by rfl) ml PySem.boot_len (pa_cons (pe_has C hr (by rfl) (pa_cons (pv 0) pa_nil)) pa_nil))))
    (pss_one (ps_ret (pe_and (pe_cmpR op_ge (pv 1) (pv 2) (nomark _)) (pe_and (pe_cmpR op_eq (pe_op op_mod (pe_op op_sub (pv 1) (pv 2)) pe_int) pe_int (nomark _))
      (pe_one (pe_or (pe_cmpR op_gt (pe_callB call_len_seq (by rfl) ml PySem.boot_len (pa_cons (pv 0) pa_nil)) pe_int (nomark _)) (pe_one (pe_cmpR op_eq (pv 1) pe_int (nomark _))))))))), ?_⟩
  have hlen : ∀ H1, Ex H H1 → RC (rLenS K) [.ref m] H1 (.int (n : Int)) := fun H1 e1 => by
    have := rc_lenT (K := K) (e1 _ _ hm)
    rw [List.length_map, hmv.len] at this
    exact this
  -- the number of cycles
  have hcy : Ev (tCB (rLenS K) (tCons (tCall spCycles [] E0 (tCons (tVar 0) tNil)) tNil)) (start ["_law_move", "_law_many", "_law_least"] [.ref m, .int many]) H (.int (cnt (fn mv) n : Nat)) := fun H1 e1 Q1 q1 =>
    ⟨.ref m, rfl, m, n, mv, rfl, e1 _ _ hm, hmv, h0, hn, fun p H2 xs hp e2 h2 hx => ⟨p, xs, rfl, .inl (sq_of h2), by
      show Q1 (.int (xs.length : Int)) H2
      rw [hx]
      exact q1 H2 e2⟩⟩
  refine q_asg (ev_op (ev_cb (ea_cons (ev_var (v := .ref m) rfl) ea_nil) (hlen H (Ex.refl H))) hcy rv_I0) fun H1 e1 => ?_
  generalize hl : (n : Int) - (cnt (fn mv) n : Nat) = least
  have e : canB n mv many = (decide (least ≤ many) && (decide ((many - least) % 2 = 0) && (decide ((1 : Int) < n) || decide (many = 0)))) := by
    unfold canB
    rw [hl]
  rw [e] at q
  have dq : ∀ a b : Int, decide (V.int a = V.int b) = decide (a = b) := fun a b => by
    by_cases c : a = b
    · rw [c, decide_eq_true rfl, decide_eq_true rfl]
    · rw [decide_eq_false c, decide_eq_false (fun z => c (V.int.inj z))]
  refine s_ret (ev_is (ev_andV (ev_op (ev_var (v := .int many) rfl) (ev_var (v := .int least) rfl) rv_I0) (fun _ => ev_andV (ev_op (ev_op (ev_op (ev_var (v := .int many) rfl) (ev_var (v := .int least) rfl) rv_I0) (ev_c (v := .int 2)) (rv_I (show (0 : Int) < 2 by decide))) (ev_c (v := .int 0)) (rv_eq rfl))
    (fun _ => ev_orV (ev_op (ev_cb (ea_cons (ev_var (v := .ref m) rfl) ea_nil) (hlen H1 e1)) (ev_c (v := .int 1)) rv_I0) (fun _ => ev_op (ev_var (v := .int many) rfl) (ev_c (v := .int 0)) (rv_eq rfl))))) ?_) (fun H2 e2 => q H2 (e1.trans e2))
  rw [dq, dq]
end
end K17
/-! the walk, ninth part: dice -/
namespace K17
open PySem PySem.Spec PyProof.Rows L2 Evl
/-! ### dice: a list of three ints that a roll turns; all else stands -/
def DiceAt (H : Hp) (d : Addr) : Prop := ∃ a b c : Int, H d = some (.lst [.int a, .int b, .int c])
structure DSt (d : Addr) (H H' : Hp) : Prop where
  keep : ∀ a o, a ≠ d → H a = some o → H' a = some o
  dice : DiceAt H' d
theorem DSt.trans {d : Addr} {H H1 H2 : Hp} (a : DSt d H H1) (b : DSt d H1 H2) : DSt d H H2 := ⟨fun x o hx h => b.keep x o hx (a.keep x o hx h), b.dice⟩
theorem DSt.of {d : Addr} {H H1 : Hp} (h : DiceAt H d) (e : Ex H H1) : DSt d H H1 := by
  obtain ⟨a, b, c, h⟩ := h
  exact ⟨fun x o _ h => e x o h, a, b, c, e _ _ h⟩
theorem DSt.ex {d : Addr} {H H1 H2 : Hp} (a : DSt d H H1) (e : Ex H1 H2) : DSt d H H2 := a.trans (.of a.dice e)
theorem DSt.refl {d : Addr} {H : Hp} (h : DiceAt H d) : DSt d H H := .of h (Ex.refl H)
theorem DSt.tex {d : Addr} {H H1 : Hp} (a : DSt d H H1) (h : DiceAt H d) : TEx H H1 := fun x xs hx => a.keep x _ (fun e => by
  obtain ⟨_, _, _, h⟩ := h
  rw [e, h] at hx
  cases hx) hx
theorem DSt.back {d p : Addr} {H H1 : Hp} (a : DSt d H H1) (h : DiceAt H d) (hp : H1 p = none) : H p = none := by
  cases e : H p with
  | none => rfl
  | some o =>
    by_cases c : p = d
    · obtain ⟨_, _, _, h1⟩ := a.dice
      rw [← c, hp] at h1
      cases h1
    · rw [a.keep p o c e] at hp
      cases hp
/-- a new list of the turn's own changes -/
theorem DSt.own {d p : Addr} {H H1 : Hp} {o : HO} (a : DSt d H H1) (hp : H p = none) (hne : p ≠ d) : DSt d H (upd H1 p o) := by
  obtain ⟨x, y, z, h⟩ := a.dice
  exact ⟨fun b u hb hu => by
    rw [upd_ne (ne_of_none hu hp)]
    exact a.keep b u hb hu, x, y, z, by rw [upd_ne hne.symm]; exact h⟩
theorem dice_ne {d p : Addr} {H : Hp} (h : DiceAt H d) (hp : H p = none) : p ≠ d := fun e => by
  obtain ⟨_, _, _, h⟩ := h
  rw [← e, hp] at h
  cases h
section
variable {K : PySem.W.Frag} {σ : L2.St} {H : Hp} {te : TE}
theorem at30 (x y z : V) : atI [x, y, z] (0 : Int) = some x := atI_nat (j := 0) rfl
theorem at31 (x y z : V) : atI [x, y, z] (1 : Int) = some y := atI_nat (j := 1) rfl
theorem at32 (x y z : V) : atI [x, y, z] (2 : Int) = some z := atI_nat (j := 2) rfl
/-- int(..) of an int, of a bool -/
def rInt1 : List V → Hp → VK → Prop := fun xs H Q => (∃ i, xs = [.int i] ∧ Q (.int i) H) ∨ ∃ k, xs = [.bl k] ∧ Q (.int (if k then 1 else 0)) H
theorem rc_int {i : Int} : RC rInt1 [.int i] H (.int i) := fun H1 e Q q => .inl ⟨i, rfl, q H1 (Ex.refl H1)⟩
theorem rc_intB {k : Bool} : RC rInt1 [.bl k] H (.int (if k then 1 else 0)) := fun H1 e Q q => .inr ⟨k, rfl, q H1 (Ex.refl H1)⟩
def rAbs1 : List V → Hp → VK → Prop := fun xs H Q => ∃ i, xs = [.int i] ∧ Q (.int (if i < 0 then -i else i)) H
theorem rc_abs {i : Int} : RC rAbs1 [.int i] H (.int (if i < 0 then -i else i)) := fun H1 e Q q => ⟨i, rfl, q H1 (Ex.refl H1)⟩
end
section
variable {P : Program} {w : World} {base : Heap} {K : PySem.W.Frag} {mg : Str → Option Value}
/-! ### _law_dice -/
abbrev sDice : Stmt := topS 25
theorem scDice : FnScope ["_law_script", "_law_spot", "_law_cell", "_law_left"] ["_law_script", "_law_spot"] (defScope sDice) := ⟨rfl, rfl, rfl, by decide +kernel, rfl, by decide +kernel, by decide +kernel⟩
def spDice (K : PySem.W.Frag) : Sp := fun vs H Q _ => ∃ (sc : Addr) (ns : List Int) (i : Nat), vs = [.ref sc, .int (i : Int)] ∧ SqL K H sc (ns.map V.int) ∧ i ≤ 1000 ∧ ∀ p H2, H p = none → Ex H H2 → DiceAt H2 p → Q (.ref p) H2
theorem mulL {a b : Int} (h : -(2 ^ 64) < a ∧ a < 2 ^ 64) : CMul a b := .inl h
theorem mulR {a b : Int} (h : -(2 ^ 64) < b ∧ b < 2 ^ 64) : CMul a b := .inr h
theorem ok_dice (D : DefAt K mg "_law_dice" sDice) (ml : mg "len" = none) (mi : mg "int" = none) (mx : mg "max" = none) (ma : mg "abs" = none) : Has P w K mg base 1 "_law_dice" ["_law_script", "_law_spot"] (spDice K) := by
  refine has_of D scDice (fun _ _ _ _ _ _ us hl => match us, hl with | [_, _], _ => rfl) ?_ ?_
  · rintro vs H Q E ⟨_, _, _, rfl, _⟩
    rfl
  rintro f cdv A outer s H vs Q E hr ⟨sc, ns, i, rfl, hs, hi, q⟩
  refine ⟨_, pss_cons (ps_set (i := 2) scDice.nd rfl (.inl rfl) (pe_ifExp (pt_cmpR op_lt (pv 1) (pe_callB call_len_seq (by rfl) ml PySem.boot_len (pa_cons (pv 0) pa_nil)) (nomark _))
      (pe_callTy call_int1 (by rfl) mi boot_int (pa_cons (pe_ix ix_list (pv 0) (pv 1) (fun _ _ => rfl)) pa_nil)) (pe_op op_add (pe_op op_mul pe_int (pv 1)) pe_int)))
    (pss_cons (ps_set (i := 3) scDice.nd rfl (.inl rfl) (pe_op op_mod (pe_callB (call_max2 rfl) (by rfl) mx (by decide +kernel) (pa_cons pe_int (pa_cons (pe_op op_sub (pe_callB call_abs (by rfl) ma (by decide +kernel) (pa_cons (pv 2) pa_nil)) (pe_op op_pow pe_int pe_int)) pa_nil)))
      (pe_op op_mulW (pe_op op_pow pe_int pe_int) (pe_op op_pow pe_int pe_int))))
    (pss_one (ps_ret (pe_lst (pa_cons (pv 3) (pa_cons (pe_op op_add (pe_op op_add (pe_op op_add (pe_op op_mul (pe_op op_mod (pe_callB call_abs (by rfl) ma (by decide +kernel) (pa_cons (pv 2) pa_nil)) pe_int) pe_int) (pe_op op_mul pe_int (pv 1)))
      (pe_op op_mul pe_int (pe_callTy call_int1 (by rfl) mi boot_int (pa_cons (pe_cmpR op_lt (pv 2) pe_int (nomark _)) pa_nil)))) pe_int) (pa_cons pe_int pa_nil))))))), ?_⟩
  have hcell : ∃ cell : Int, Ev (tIf (tTest (tOp (rI0 fun i j => .bl (decide (i < j))) (tVar 1) (tCB (rLenS K) (tCons (tVar 0) tNil)))) (tCB rInt1 (tCons (tOp (rIxL K) (tVar 0) (tVar 1)) tNil)) (tOp (rI0 fun i j => .int (i + j)) (tOp (rI CMul fun i j => .int (i * j)) (tC (.int 73)) (tVar 1)) (tC (.int 41))))
      (start ["_law_script", "_law_spot", "_law_cell", "_law_left"] [.ref sc, .int (i : Int)]) H (.int cell) := by
    have hlen : Ev (tCB (rLenS K) (tCons (tVar 0) tNil)) (start ["_law_script", "_law_spot", "_law_cell", "_law_left"] [.ref sc, .int (i : Int)]) H (.int (ns.length : Int)) := by
      have := ev_len (K := K) (ta := tVar 0) (σ := start ["_law_script", "_law_spot", "_law_cell", "_law_left"] [.ref sc, .int (i : Int)]) (ev_var rfl) hs
      rw [List.length_map] at this
      exact this
    by_cases c : i < ns.length
    · refine ⟨ns[i], ev_if (b := true) (et_is (et_test (ev_op (ev_var (v := .int (i : Int)) rfl) hlen rv_I0)) (decide_eq_true (by omega))) (fun _ => ?_) (fun h => nomatch h)⟩
      refine ev_cb (ea_cons (ev_op (ev_var (v := .ref sc) rfl) (ev_var (v := .int (i : Int)) rfl) (rv_ixL hs (atI_nat ?_))) ea_nil) rc_int
      rw [List.getElem?_map, List.getElem?_eq_getElem c]
      rfl
    · refine ⟨73 * i + 41, ev_if (b := false) (et_is (et_test (ev_op (ev_var (v := .int (i : Int)) rfl) hlen rv_I0)) (decide_eq_false (by omega))) (fun h => nomatch h) (fun _ => ?_)⟩
      exact ev_op (ev_op (ev_c (v := .int 73)) (ev_var (v := .int (i : Int)) rfl) (rv_I (mulL (by decide)))) (ev_c (v := .int 41)) rv_I0
  obtain ⟨cell, hcell⟩ := hcell
  refine q_asg hcell fun H1 e1 => ?_
  refine q_asg (ev_op (ev_max2 (ev_c (v := .int 0)) (ev_op (ev_cb (ea_cons (ev_var (v := .int cell) rfl) ea_nil) rc_abs) (ev_op (ev_c (v := .int 10)) (ev_c (v := .int 17)) (rv_I (show CPow 10 17 from ⟨by decide, by decide, by decide⟩))) rv_I0))
    (ev_op (ev_op (ev_c (v := .int 10)) (ev_c (v := .int 57)) (rv_I (show CPow 10 57 from ⟨by decide, by decide, by decide⟩))) (ev_op (ev_c (v := .int 10)) (ev_c (v := .int 60)) (rv_I (show CPow 10 60 from ⟨by decide, by decide, by decide⟩)))
      (rv_I (wide_mul (a := 220) (b := 220) (by decide) (by decide) (by decide) (by decide) (by decide)))) (rv_I (show (0 : Int) < 10 ^ (57 : Int).toNat * 10 ^ (60 : Int).toNat by decide))) fun H2 e2 => ?_
  refine s_retL (el_lst (ea_cons (ev_var rfl) (ea_cons (ev_op (ev_op (ev_op (ev_op (ev_op (ev_cb (ea_cons (ev_var (v := .int cell) rfl) ea_nil) rc_abs) (ev_c (v := .int 1152921504606846883)) (rv_I (show (0 : Int) < 1152921504606846883 by decide))) (ev_c (v := .int 59)) (rv_I (mulR (by decide))))
      (ev_op (ev_c (v := .int 977)) (ev_var (v := .int (i : Int)) rfl) (rv_I (mulL (by decide)))) rv_I0) (ev_op (ev_c (v := .int 47)) (ev_cb (ea_cons (ev_op (ev_var (v := .int cell) rfl) (ev_c (v := .int 0)) rv_I0) ea_nil) rc_intB) (rv_I (mulL (by decide)))) rv_I0) (ev_c (v := .int 13)) rv_I0)
    (ea_cons (ev_c (v := .int 0)) ea_nil))) (by show 3 ≤ 100000; decide)) fun p H3 hp e3 h3 => ?_
  exact q p H3 (fresh_back (e1.trans e2) hp) ((e1.trans e2).trans e3) ⟨_, _, _, h3⟩
/-! ### _law_roll -/
abbrev sRoll : Stmt := topS 26
theorem scRoll : FnScope ["_law_dice_here", "_law_total", "_law_found", "_law_one", "_law_two"] ["_law_dice_here", "_law_total"] (defScope sRoll) := ⟨rfl, rfl, rfl, by decide +kernel, rfl, by decide +kernel, by decide +kernel⟩
def spRoll : Sp := fun vs H Q _ => ∃ (d : Addr) (n : Nat), vs = [.ref d, .int (n : Int)] ∧ DiceAt H d ∧ 0 < n ∧ n ≤ 1000 ∧ ∀ (r : Nat) H', r < n → DSt d H H' → Q (.int (r : Int)) H'
theorem ok_roll (D : DefAt K mg "_law_roll" sRoll) (mi : mg "int" = none) : Has P w K mg base 1 "_law_roll" ["_law_dice_here", "_law_total"] spRoll := by
  refine has_of D scRoll (fun _ _ _ _ _ _ us hl => match us, hl with | [_, _], _ => rfl) ?_ ?_
  · rintro vs H Q E ⟨_, _, rfl, _⟩
    rfl
  rintro f cdv A outer s H vs Q E hr ⟨d, n, rfl, ⟨a, b, c, hd⟩, h0, hn, q⟩
  refine ⟨_, pss_cons (ps_if (pt_cmpR op_gt (pe_ix ix_list (pv 0) pe_int (fun _ _ => rfl)) pe_int (nomark _))
      (pss_cons (ps_set (i := 2) scRoll.nd rfl (.inl rfl) (pe_op op_mod (pe_callTy call_int1 (by rfl) mi boot_int (pa_cons (pe_ix ix_list (pv 0) pe_int (fun _ _ => rfl)) pa_nil)) (pv 1)))
      (pss_cons (ps_asg (pe_op op_fdiv (pe_ix ix_list (pv 0) pe_int (fun _ _ => rfl)) (pv 1)) (pg_sub (pv 0) pe_int set_list))
      (pss_one (ps_ret (pv 2))))) pss_nil)
    (pss_cons (ps_asg (pe_op op_add (pe_ix ix_list (pv 0) pe_int (fun _ _ => rfl)) pe_int) (pg_sub (pv 0) pe_int set_list))
    (pss_cons (ps_set (i := 3) scRoll.nd rfl (.inl rfl) (pe_op op_mod (pe_callTy call_int1 (by rfl) mi boot_int (pa_cons (pe_op op_add (pe_ix ix_list (pv 0) pe_int (fun _ _ => rfl)) (pe_op op_mul pe_int (pe_ix ix_list (pv 0) pe_int (fun _ _ => rfl)))) pa_nil)) pe_int))
    (pss_cons (ps_set (i := 4) scRoll.nd rfl (.inl rfl) (pe_op op_add (pe_op op_mul (pe_op op_mod (pe_callTy call_int1 (by rfl) mi boot_int (pa_cons (pe_op op_add (pe_op op_mul (pv 3) (pv 3)) (pe_op op_mul pe_int (pe_ix ix_list (pv 0) pe_int (fun _ _ => rfl)))) pa_nil)) pe_int) pe_int) (pv 3)))
    (pss_one (ps_ret (pe_op op_mod (pe_callTy call_int1 (by rfl) mi boot_int (pa_cons (pe_op op_fdiv (pv 4) pe_int) pa_nil)) (pv 1))))))), ?_⟩
  have hpos : (0 : Int) < (n : Int) := by omega
  have fin : ∀ x : Int, ∃ r : Nat, x % (n : Int) = (r : Int) ∧ r < n := fun x => by
    have h1 := Int.emod_nonneg x (show (n : Int) ≠ 0 by omega)
    have h2 := Int.emod_lt_of_pos x hpos
    exact ⟨(x % (n : Int)).toNat, by omega, by omega⟩
  refine q_when (et_test (ev_op (ev_op (ev_var (v := .ref d) rfl) (ev_c (v := .int 0)) (rv_ixL (sq_of hd) (at30 _ _ _))) (ev_c (v := .int 0)) rv_I0)) (fun _ H1 e1 => ?_) (fun _ H1 e1 => ?_)
  · refine q_asg (ev_op (ev_cb (ea_cons (ev_op (ev_var (v := .ref d) rfl) (ev_c (v := .int 0)) (rv_ixL (sq_of (e1 _ _ hd)) (at30 _ _ _))) ea_nil) rc_int) (ev_var (v := .int (n : Int)) rfl) (rv_I hpos)) fun H2 e2 => ?_
    have d2 := e2 _ _ (e1 _ _ hd)
    refine q_setL (j := 0) d2 (ev_op (ev_op (ev_var (v := .ref d) rfl) (ev_c (v := .int 0)) (rv_ixL (sq_of d2) (at30 _ _ _))) (ev_var (v := .int (n : Int)) rfl) (rv_I (show CDiv a n from ⟨hpos, by omega⟩))) (ev_var (v := .ref d) rfl) ev_c (by show 0 < 3; decide) fun H3 e3 => ?_
    obtain ⟨r, er, hr2⟩ := fin a
    refine ⟨_, rfl, ?_⟩
    show Q (.int (a % (n : Int))) _
    rw [er]
    refine q r _ hr2 ⟨fun x o hx h => ?_, _, _, _, upd_same⟩
    rw [upd_ne hx]
    exact e3 _ _ (e2 _ _ (e1 _ _ h))
  · have d1 := e1 _ _ hd
    refine q_setL (j := 2) d1 (ev_op (ev_op (ev_var (v := .ref d) rfl) (ev_c (v := .int 2)) (rv_ixL (sq_of d1) (at32 _ _ _))) (ev_c (v := .int 1)) rv_I0) (ev_var (v := .ref d) rfl) ev_c (by show 2 < 3; decide) fun H2 e2 => ?_
    generalize hH3 : upd H2 d (.lst ([V.int a, V.int b, V.int c].set 2 (.int (c + 1)))) = H3
    have d3 : H3 d = some (.lst [.int a, .int b, .int (c + 1)]) := by
      rw [← hH3]
      exact upd_same
    have m3 : ∀ x o, x ≠ d → H x = some o → H3 x = some o := fun x o hx h => by
      rw [← hH3, upd_ne hx]
      exact e2 _ _ (e1 _ _ h)
    refine q_asg (ev_op (ev_cb (ea_cons (ev_op (ev_op (ev_var (v := .ref d) rfl) (ev_c (v := .int 1)) (rv_ixL (sq_of d3) (at31 _ _ _))) (ev_op (ev_c (v := .int 99990001)) (ev_op (ev_var (v := .ref d) rfl) (ev_c (v := .int 2)) (rv_ixL (sq_of d3) (at32 _ _ _))) (rv_I (mulL (by decide)))) rv_I0) ea_nil) rc_int)
      (ev_c (v := .int 2305843009213693403)) (rv_I (show (0 : Int) < 2305843009213693403 by decide))) fun H4 e4 => ?_
    have hone : ∀ x : Int, -(2 ^ 64) < x % 2305843009213693403 ∧ x % 2305843009213693403 < 2 ^ 64 := fun x => by omega
    generalize hx1 : (b + 99990001 * (c + 1)) % 2305843009213693403 = one
    have h1 := hone (b + 99990001 * (c + 1))
    rw [hx1] at h1
    have d4 := e4 _ _ d3
    refine q_asg (ev_op (ev_op (ev_op (ev_cb (ea_cons (ev_op (ev_op (ev_var (v := .int one) rfl) (ev_var (v := .int one) rfl) (rv_I (mulL h1))) (ev_op (ev_c (v := .int 83)) (ev_op (ev_var (v := .ref d) rfl) (ev_c (v := .int 2)) (rv_ixL (sq_of d4) (at32 _ _ _))) (rv_I (mulL (by decide)))) rv_I0) ea_nil) rc_int)
      (ev_c (v := .int 2305843009213693373)) (rv_I (show (0 : Int) < 2305843009213693373 by decide))) (ev_c (v := .int 8675327)) (rv_I (mulR (by decide)))) (ev_var (v := .int one) rfl) rv_I0) fun H5 e5 => ?_
    generalize (one * one + 83 * (c + 1)) % 2305843009213693373 * 8675327 + one = two
    refine s_ret (ev_op (ev_cb (ea_cons (ev_op (ev_var (v := .int two) rfl) (ev_c (v := .int 65539)) (rv_I (show CDiv two 65539 from ⟨by decide, by decide⟩))) ea_nil) rc_int) (ev_var (v := .int (n : Int)) rfl) (rv_I hpos)) fun H6 e6 => ?_
    obtain ⟨r, er, hr2⟩ := fin (two / 65539)
    show Q (.int (two / 65539 % (n : Int))) _
    rw [er]
    exact q r _ hr2 ⟨fun x o hx h => e6 _ _ (e5 _ _ (e4 _ _ (m3 x o hx h))), _, _, _, e6 _ _ (e5 _ _ d4)⟩
/-! ### _law_pick -/
abbrev sPick : Stmt := topS 27
theorem scPick : FnScope ["_law_dice_here", "_law_items"] ["_law_dice_here", "_law_items"] (defScope sPick) := ⟨rfl, rfl, rfl, by decide +kernel, rfl, by decide +kernel, by decide +kernel⟩
def spPick : Sp := fun vs H Q _ => ∃ (d p : Addr) (ns : List Int), vs = [.ref d, .ref p] ∧ DiceAt H d ∧ H p = some (.lst (ns.map V.int)) ∧ p ≠ d ∧ 0 < ns.length ∧ ns.length ≤ 1000 ∧ ∀ x H', x ∈ ns → DSt d H H' → Q (.int x) H'
theorem ok_pick (D : DefAt K mg "_law_pick" sPick) (ml : mg "len" = none) (R : Has P w K mg base 1 "_law_roll" ["_law_dice_here", "_law_total"] spRoll) : Has P w K mg base 2 "_law_pick" ["_law_dice_here", "_law_items"] spPick := by
  refine has_of D scPick (fun _ _ _ _ _ _ us hl => match us, hl with | [_, _], _ => rfl) ?_ ?_
  · rintro vs H Q E ⟨_, _, _, rfl, _⟩
    rfl
  rintro f cdv A outer s H vs Q E hr ⟨d, p, ns, rfl, hd, hp, hne, h0, hn, q⟩
  refine ⟨_, pss_one (ps_ret (pe_ix ix_list (pv 1) (pe_has R hr (by rfl) (pa_cons (pv 0) (pa_cons (pe_callB call_len_seq (by rfl) ml PySem.boot_len (pa_cons (pv 1) pa_nil)) pa_nil))) (fun _ _ => rfl))), ?_⟩
  refine ⟨.ref p, rfl, .ref d, rfl, .ref p, rfl, p, ns.map V.int, rfl, .inl (sq_of hp), ?_⟩
  refine ⟨d, ns.length, by rw [List.length_map]; rfl, hd, h0, hn, fun r H' hr2 hst => ?_⟩
  refine ⟨p, ns.map V.int, (r : Int), .int ns[r], rfl, rfl, sq_of (hst.keep _ _ hne hp), atI_nat ?_, q _ _ (List.getElem_mem hr2) hst⟩
  rw [List.getElem?_map, List.getElem?_eq_getElem hr2]
  rfl
end
end K17
/-! the walk, tenth part: what is drawn -/
namespace K17
open PySem PySem.Spec PyProof.Rows L2 Evl
theorem perm_pop {ls fs ns : List Int} {r : Nat} (h : (fs ++ ls).Perm ns) (hr : r < ls.length) : ((fs ++ [ls[r]]) ++ ls.eraseIdx r).Perm ns := by
  have e : ls.Perm (ls[r] :: ls.eraseIdx r) := by
    have e1 : ls = ls.take r ++ ls[r] :: ls.drop (r + 1) := by rw [List.getElem_cons_drop hr, List.take_append_drop]
    have e2 : ls.eraseIdx r = ls.take r ++ ls.drop (r + 1) := List.eraseIdx_eq_take_drop_succ ..
    rw [e2]
    exact (List.Perm.of_eq e1).trans List.perm_middle
  rw [List.append_assoc]
  exact ((e.symm.append_left fs)).trans h
theorem map_erase (ls : List Int) (r : Nat) : (ls.map V.int).eraseIdx r = (ls.eraseIdx r).map V.int := by
  rw [List.eraseIdx_eq_take_drop_succ, List.eraseIdx_eq_take_drop_succ, List.map_append, List.map_take, List.map_drop]
section
variable {P : Program} {w : World} {base : Heap} {K : PySem.W.Frag} {mg : Str → Option Value}
/-! ### _law_shuffled -/
abbrev sShuffled : Stmt := topS 28
theorem scShuffled : FnScope ["_law_dice_here", "_law_items", "_law_left", "_law_found", "_law_turn"] ["_law_dice_here", "_law_items"] (defScope sShuffled) := ⟨rfl, rfl, rfl, by decide +kernel, rfl, by decide +kernel, by decide +kernel⟩
def spShuffled : Sp := fun vs H Q _ => ∃ (d p : Addr) (ns : List Int), vs = [.ref d, .ref p] ∧ DiceAt H d ∧ H p = some (.lst (ns.map V.int)) ∧ p ≠ d ∧ ns.length ≤ 1000 ∧
  ∀ (r : Addr) (H' : Hp) (ns' : List Int), H r = none → DSt d H H' → H' r = some (.lst (ns'.map V.int)) → ns'.Perm ns → Q (.ref r) H'
structure ShD (H : Hp) (d fo le : Addr) (ns : List Int) (i : Nat) (fs ls : List Int) (H' : Hp) : Prop where
  st : DSt d H H'
  nf : H fo = none
  nl : H le = none
  ne : fo ≠ le
  fd : fo ≠ d
  ld : le ≠ d
  fll : H' fo = some (.lst (fs.map V.int))
  lel : H' le = some (.lst (ls.map V.int))
  pm : (fs ++ ls).Perm ns
  len : fs.length = i
theorem ok_shuffled (D : DefAt K mg "_law_shuffled" sShuffled) (ml : mg "len" = none) (mls : mg "list" = none) (mr : mg "range" = none) (R : Has P w K mg base 1 "_law_roll" ["_law_dice_here", "_law_total"] spRoll) : Has P w K mg base 2 "_law_shuffled" ["_law_dice_here", "_law_items"] spShuffled := by
  refine has_of D scShuffled (fun _ _ _ _ _ _ us hl => match us, hl with | [_, _], _ => rfl) ?_ ?_
  · rintro vs H Q E ⟨_, _, _, rfl, _⟩
    rfl
  rintro f cdv A outer s H vs Q E hr ⟨d, p, ns, rfl, hd, hp, hne, hn, q⟩
  refine ⟨_, pss_cons (ps_par (i := 2) (j := 3) rfl scShuffled.nd rfl rfl (by decide) rfl rfl (pa_cons (pe_callTy call_list_of (by rfl) mls boot_list (pa_cons (pv 1) pa_nil)) (pa_cons (pe_lst pa_nil) pa_nil)) (by rfl))
    (pss_cons (ps_for PassesOwn.never rfl (pi_range1 (by rfl) mr (pa_cons (pe_callB call_len_seq (by rfl) ml PySem.boot_len (pa_cons (pv 1) pa_nil)) pa_nil)) (pg_name (i := 4) scShuffled.nd rfl (.inl rfl))
      (pss_one (ps_expr (pe_bm PySem.F.plainAttrs_list PySem.F.slot_list_append PySem.F.type_list_append mt_append (pv 3)
        (pa_cons (pe_bm PySem.F.plainAttrs_list PySem.F.slot_list_pop PySem.F.type_list_pop mt_popAt (pv 2) (pa_cons (pe_has R hr (by rfl) (pa_cons (pv 0) (pa_cons (pe_callB call_len_seq (by rfl) ml PySem.boot_len (pa_cons (pv 2) pa_nil)) pa_nil))) pa_nil)) pa_nil)))))
    (pss_one (ps_ret (pv 3)))), ?_⟩
  -- left, found = list(items), []
  refine ⟨.ref p, rfl, p, ns.map V.int, rfl, .inl (sq_of hp), fun le nle => ⟨Nat.zero_le _, fun fo nfo => ⟨.ref le, .ref fo, rfl, ?_⟩⟩⟩
  have e1 : Ex H (upd H le (.lst (ns.map V.int))) := Ex.new nle
  have e2 : Ex (upd H le (.lst (ns.map V.int))) (upd (upd H le (.lst (ns.map V.int))) fo (.lst [])) := Ex.new nfo
  have hfl : fo ≠ le := fun z => by
    rw [z, upd_same] at nfo
    cases nfo
  have X0 : ShD H d fo le ns 0 [] ns (upd (upd H le (.lst (ns.map V.int))) fo (.lst [])) :=
    ⟨.of hd (e1.trans e2), fresh_back e1 nfo, nle, hfl, dice_ne hd (fresh_back e1 nfo), dice_ne hd nle, upd_same, by rw [upd_ne hfl.symm, upd_same], List.Perm.refl _, rfl⟩
  dsimp only
  refine q_forR1 (n := (ns.length : Int)) (ea_cons (ev_is (ev_cb (ea_cons (ev_var (v := .ref p) rfl) ea_nil) (rc_lenL ((e1.trans e2) _ _ hp))) (by rw [List.length_map])) ea_nil) (by omega)
    (fun i σ' H' => ∃ y4 fs ls, σ' = [some (.ref d), some (.ref p), some (.ref le), some (.ref fo), y4] ∧ ShD H d fo le ns i fs ls H')
    (fun H1 e => ⟨none, [], ns, rfl, ⟨X0.st.ex e, X0.nf, X0.nl, X0.ne, X0.fd, X0.ld, e _ _ X0.fll, e _ _ X0.lel, X0.pm, X0.len⟩⟩) ?_ ?_
  · rintro i σ' H' hi ⟨y4, fs, ls, rfl, X⟩
    have hll : ls.length + i = ns.length := by
      have := X.pm.length_eq
      rw [List.length_append, X.len] at this
      omega
    -- found.append(left.pop(roll(dice, len(left))))
    refine ⟨.ref fo, rfl, .inl ⟨rfl, _, sq_of X.fll⟩, .ref le, rfl, .inl ⟨rfl, _, sq_of X.lel⟩, .ref d, rfl, .ref le, rfl, le, ls.map V.int, rfl, .inl (sq_of X.lel), ?_⟩
    refine ⟨d, ls.length, by rw [List.length_map]; rfl, X.st.dice, by omega, by omega, fun r H1 hr2 hst => ?_⟩
    have l1 := hst.keep _ _ X.ld X.lel
    have f1 := hst.keep _ _ X.fd X.fll
    refine ⟨le, ls.map V.int, (r : Int), r, .int ls[r], rfl, rfl, l1, by omega, by omega, (ixN_seq (ixN_nat (by rw [List.length_map]; exact hr2))).1, by rw [List.getElem?_map, List.getElem?_eq_getElem hr2] <;> rfl, ?_⟩
    have f2 : (upd H1 le (.lst ((ls.map V.int).eraseIdx r))) fo = some (.lst (fs.map V.int)) := by
      rw [upd_ne X.ne]
      exact f1
    refine ⟨fo, fs.map V.int, .int ls[r], rfl, rfl, f2, sz_lt (by rw [List.length_map, X.len]; omega), ?_⟩
    refine ⟨_, fs ++ [ls[r]], ls.eraseIdx r, rfl, ⟨((X.st.trans hst).own X.nl X.ld).own X.nf X.fd, X.nf, X.nl, X.ne, X.fd, X.ld, ?_, ?_, perm_pop X.pm hr2, ?_⟩⟩
    · rw [upd_same, List.map_append]
      rfl
    · rw [upd_ne X.ne.symm, upd_same, map_erase]
    · rw [List.length_append, List.length_singleton, X.len]
  · rintro σ' H' ⟨y4, fs, ls, rfl, X⟩
    have hl0 : ls = [] := by
      have := X.pm.length_eq
      rw [List.length_append, X.len] at this
      exact List.eq_nil_of_length_eq_zero (by omega)
    have pm := X.pm
    rw [hl0, List.append_nil] at pm
    exact ⟨.ref fo, rfl, q fo H' fs X.nf X.st X.fll pm⟩
/-! ### _law_move_drawn -/
abbrev sMoveDrawn : Stmt := topS 31
theorem scMoveDrawn : FnScope ["_law_dice_here", "_law_size"] ["_law_dice_here", "_law_size"] (defScope sMoveDrawn) := ⟨rfl, rfl, rfl, by decide +kernel, rfl, by decide +kernel, by decide +kernel⟩
def spMoveDrawn : Sp := fun vs H Q _ => ∃ (d : Addr) (n : Nat), vs = [.ref d, .int (n : Int)] ∧ DiceAt H d ∧ n ≤ 1000 ∧ ∀ p H' mv, H p = none → DSt d H H' → IntsAt H' p mv → mv.Perm (rng n) → Q (.ref p) H'
theorem ok_moveDrawn (D : DefAt K mg "_law_move_drawn" sMoveDrawn) (mt : mg "tuple" = none) (mls : mg "list" = none) (mr : mg "range" = none) (S : Has P w K mg base 2 "_law_shuffled" ["_law_dice_here", "_law_items"] spShuffled) : Has P w K mg base 3 "_law_move_drawn" ["_law_dice_here", "_law_size"] spMoveDrawn := by
  refine has_of D scMoveDrawn (fun _ _ _ _ _ _ us hl => match us, hl with | [_, _], _ => rfl) ?_ ?_
  · rintro vs H Q E ⟨_, _, rfl, _⟩
    rfl
  rintro f cdv A outer s H vs Q E hr ⟨d, n, rfl, hd, hn, q⟩
  refine ⟨_, pss_one (ps_ret (pe_tupleOf (by rfl) mt (pe_has S hr (by rfl) (pa_cons (pv 0) (pa_cons (pe_listRg rfl (by rfl) mls (prg_1 (by rfl) mr (pv 1))) pa_nil))))), ?_⟩
  refine ⟨.ref d, rfl, .int (n : Int), rfl, (n : Int), rfl, RgOk.of_le (by decide) (by omega) (by decide) (by omega), fun l nl => ?_⟩
  rw [rgV_rng]
  have e1 : Ex H (upd H l (.lst ((rng n).map V.int))) := Ex.new nl
  have s1 := DSt.of hd e1
  refine ⟨d, l, rng n, rfl, s1.dice, upd_same, dice_ne hd nl, by rw [rng_len]; exact hn, fun r H' ns' nr hst hr2 hpm => ?_⟩
  refine .inl ⟨r, ns'.map V.int, rfl, sq_of hr2, fun p np => ?_⟩
  have e3 : Ex H' (upd H' p (.tup (ns'.map V.int))) := Ex.new np
  exact q p _ ns' ((s1.trans hst).back hd np) ((s1.trans hst).ex e3) upd_same hpm
/-! ### _law_swap_drawn -/
abbrev sSwapDrawn : Stmt := topS 32
theorem scSwapDrawn : FnScope ["_law_dice_here", "_law_size", "_law_low", "_law_high"] ["_law_dice_here", "_law_size"] (defScope sSwapDrawn) := ⟨rfl, rfl, rfl, by decide +kernel, rfl, by decide +kernel, by decide +kernel⟩
def spSwapDrawn : Sp := fun vs H Q _ => ∃ (d : Addr) (n : Nat), vs = [.ref d, .int (n : Int)] ∧ DiceAt H d ∧ 2 ≤ n ∧ n ≤ 1000 ∧ ∀ p H' s, H p = none → DSt d H H' → SwAt H' p s → Q (.ref p) H'
theorem cut2 (ns : List Int) (h : 2 ≤ ns.length) : ∃ a b, cutV (ns.map V.int) none (some 2) = [a, b].map V.int := by
  match ns, h with
  | x :: y :: r, _ =>
    refine ⟨x, y, ?_⟩
    unfold cutV
    rw [HT.sIx_none, show HT.sIx _ _ (some 2) = min 2 ((x :: y :: r).map V.int).length from HT.sIx_nat _ _ 2]
    rw [show min 2 ((x :: y :: r).map V.int).length = 2 by rw [List.length_map, List.length_cons, List.length_cons]; omega]
    rfl
theorem ok_swapDrawn (D : DefAt K mg "_law_swap_drawn" sSwapDrawn) (ms : mg "sorted" = none) (mls : mg "list" = none) (mr : mg "range" = none) (S : Has P w K mg base 2 "_law_shuffled" ["_law_dice_here", "_law_items"] spShuffled) : Has P w K mg base 3 "_law_swap_drawn" ["_law_dice_here", "_law_size"] spSwapDrawn := by
  refine has_of D scSwapDrawn (fun _ _ _ _ _ _ us hl => match us, hl with | [_, _], _ => rfl) ?_ ?_
  · rintro vs H Q E ⟨_, _, rfl, _⟩
    rfl
  rintro f cdv A outer s H vs Q E hr ⟨d, n, rfl, hd, h2, hn, q⟩
  refine ⟨_, pss_cons (ps_asg (pe_callB cr_sorted (by rfl) ms (by decide +kernel) (pa_cons (pe_slice sl_list (pe_has S hr (by rfl) (pa_cons (pv 0) (pa_cons (pe_listRg rfl (by rfl) mls (prg_1 (by rfl) mr (pv 1))) pa_nil))) po_none (po_some pe_int)) pa_nil))
      (pg_unl rfl (pgs_cons (pg_name (i := 2) scSwapDrawn.nd rfl (.inl rfl)) (pgs_cons (pg_name (i := 3) scSwapDrawn.nd rfl (.inl rfl)) pgs_nil))))
    (pss_one (ps_ret (pe_tup (pa_cons (pv 2) (pa_cons (pv 3) pa_nil))))), ?_⟩
  refine ⟨.ref d, rfl, .int (n : Int), rfl, (n : Int), rfl, RgOk.of_le (by decide) (by omega) (by decide) (by omega), fun l nl => ?_⟩
  rw [rgV_rng]
  have e1 : Ex H (upd H l (.lst ((rng n).map V.int))) := Ex.new nl
  have s1 := DSt.of hd e1
  refine ⟨d, l, rng n, rfl, s1.dice, upd_same, dice_ne hd nl, by rw [rng_len]; exact hn, fun r H' ns' nr hst hr2 hpm => ?_⟩
  have hns : 2 ≤ ns'.length := by
    rw [hpm.length_eq, rng_len]
    exact h2
  obtain ⟨a, b, hcut⟩ := cut2 ns' hns
  refine ⟨2, rfl, r, ns'.map V.int, rfl, sq_of hr2, fun c nc => ?_⟩
  rw [hcut]
  have e3 : Ex H' (upd H' c (.lst ([a, b].map V.int))) := Ex.new nc
  refine ⟨c, [a, b], rfl, sq_of upd_same, by show 2 < 64; decide, fun ms p hpm2 _ np => ?_⟩
  have e4 : Ex (upd H' c (.lst ([a, b].map V.int))) (upd (upd H' c (.lst ([a, b].map V.int))) p (.lst (ms.map V.int))) := Ex.new np
  obtain ⟨x, y, rfl⟩ := two_of (xs := ms) (by rw [hpm2.length_eq]; rfl)
  refine ⟨p, [.int x, .int y], rfl, sq_of upd_same, rfl, _, _, rfl, _, _, rfl, rfl, ?_⟩
  refine ⟨.int x, rfl, .int y, rfl, by show 2 ≤ sizeLine; decide, fun u nu => ?_⟩
  have e5 := Ex.new (o := .tup [.int x, .int y]) nu
  have st := ((s1.trans hst).ex (e3.trans e4))
  exact q u _ (x, y) (st.back hd nu) (st.ex e5) upd_same
/-! ### _law_row_drawn -/
abbrev sRowDrawn : Stmt := topS 33
abbrev nRowDrawn : List Str := ["_law_dice_here", "_law_size", "_law_many", "_law_turn"]
theorem scRowDrawn : FnScope nRowDrawn ["_law_dice_here", "_law_size", "_law_many"] (defScope sRowDrawn) := ⟨rfl, rfl, rfl, by decide +kernel, rfl, by decide +kernel, by decide +kernel⟩
def spRowDrawn : Sp := fun vs H Q _ => ∃ (d : Addr) (n : Nat) (many : Nat), vs = [.ref d, .int (n : Int), .int (many : Int)] ∧ DiceAt H d ∧ 2 ≤ n ∧ n ≤ 1000 ∧ many ≤ 1000 ∧ ∀ p H' ss, H p = none → DSt d H H' → RowAt H' p ss → ss.length = many → Q (.ref p) H'
theorem ok_rowDrawn (D : DefAt K mg "_law_row_drawn" sRowDrawn) (mt : mg "tuple" = none) (mr : mg "range" = none) (S : Has P w K mg base 3 "_law_swap_drawn" ["_law_dice_here", "_law_size"] spSwapDrawn) : Has P w K mg base 4 "_law_row_drawn" ["_law_dice_here", "_law_size", "_law_many"] spRowDrawn := by
  refine has_of D scRowDrawn (fun _ _ _ _ _ _ us hl => match us, hl with | [_, _, _], _ => rfl) ?_ ?_
  · rintro vs H Q E ⟨_, _, _, rfl, _⟩
    rfl
  rintro f cdv A outer s H vs Q E hr ⟨d, n, many, rfl, hd, h2, hn, hk, q⟩
  refine ⟨_, pss_one (ps_ret (pe_tupleOf (by rfl) mt (pe_lc (own := [("_law_turn", 3)]) (g := gName 3) (tt := tYes) rfl scRowDrawn.nd (pi_range1 (by rfl) mr (pa_cons (pv 2) pa_nil))
      (blkOk_by (own := [("_law_turn", 3)]) (N := nRowDrawn) (sc := defScope sRowDrawn) (by decide +kernel))
      (fun _ _ _ _ _ => pg_name (i := 3) scRowDrawn.nd rfl (.inl rfl)) (fun _ _ _ _ _ => pts_nil)
      (fun _ _ _ _ _ => pe_has S hr (by rfl) (pa_cons (pv 0) (pa_cons (pv 1) pa_nil)))))), ?_⟩
  refine ⟨.int (many : Int), rfl, (many : Int), rfl, by omega, by omega, fun Dl nD => ?_⟩
  have hne := dice_ne hd nD
  refine lc_range (lo := 0) (n := (many : Int).toNat) (fun i H' => ∃ as ss, DSt d H H' ∧ H' Dl = some (.lst (as.map V.ref)) ∧ SwsAt H' as ss ∧ as.length = i) ⟨[], [], .of hd (Ex.new nD), upd_same, .nil, rfl⟩ ?_ ?_
  · rintro i H' hi ⟨as, ss, hst, hl, hs, hz⟩
    refine ⟨rfl, ?_⟩
    refine ⟨.ref d, rfl, .int (n : Int), rfl, d, n, rfl, hst.dice, h2, hn, fun p H1 s np hst1 hsw => ?_⟩
    have l1 := hst1.keep _ _ hne hl
    refine ⟨as.map V.ref, l1, sz_lt (by rw [List.length_map, hz]; omega), as ++ [p], ss ++ [s], ?_, ?_, ?_, ?_⟩
    · exact (hst.trans hst1).own nD hne
    · rw [upd_same, List.map_append]
      rfl
    · have t : TEx H1 (upd H1 Dl (.lst (as.map V.ref ++ [.ref p]))) := TEx.lst l1
      exact pr_app (hs.ex ((hst1.tex hst.dice).trans t)) (t _ _ hsw)
    · rw [List.length_append, List.length_singleton, hz]
  · rintro H' ⟨as, ss, hst, hl, hs, hz⟩
    refine .inl ⟨Dl, as.map V.ref, rfl, sq_of hl, fun p np => ?_⟩
    have e : Ex H' (upd H' p (.tup (as.map V.ref))) := Ex.new np
    refine q p _ ss (hst.back hd np) (hst.ex e) ⟨as, upd_same, hs.ex (TEx.of e)⟩ ?_
    rw [← Paired.length hs, hz]
    omega
end
end K17
/-! the walk, eleventh part: the values that are judged -/
namespace K17
open PySem PySem.Spec PyProof.Rows L2 Evl
/-! ### dice turned: what is described stays described -/
theorem KindOf.dst {d : Addr} {H H1 : Hp} {x : V} {n : String} (hd : DiceAt H d) (e : DSt d H H1) (h : KindOf H x n) : KindOf H1 x n := by
  obtain ⟨_, _, _, hl⟩ := hd
  rcases h with h | h | h | h | ⟨a, xs, h1, h2, h3⟩ | ⟨a, xs, h1, h2, h3⟩ | ⟨a, xs, h1, h2, h3⟩
  · exact .inl h
  · exact .inr (.inl h)
  · exact .inr (.inr (.inl h))
  · exact .inr (.inr (.inr (.inl h)))
  · by_cases c : a = d
    · obtain ⟨_, _, _, h4⟩ := e.dice
      exact .inr (.inr (.inr (.inr (.inl ⟨a, _, h1, by rw [c]; exact h4, h3⟩))))
    · exact .inr (.inr (.inr (.inr (.inl ⟨a, xs, h1, e.keep _ _ c h2, h3⟩))))
  · exact .inr (.inr (.inr (.inr (.inr (.inl ⟨a, xs, h1, e.keep _ _ (fun c => by rw [c, hl] at h2; cases h2) h2, h3⟩)))))
  · exact .inr (.inr (.inr (.inr (.inr (.inr ⟨a, xs, h1, e.keep _ _ (fun c => by rw [c, hl] at h2; cases h2) h2, h3⟩)))))
theorem NoTup.dst {d : Addr} {H H1 : Hp} {v : V} (hd : DiceAt H d) (e : DSt d H H1) (h : NoTup H v) : NoTup H1 v := by
  obtain ⟨n, h1, h2⟩ := h
  exact ⟨n, h1.dst hd e, h2⟩
theorem ItAt.dst {d : Addr} {H H1 : Hp} {v : V} (hd : DiceAt H d) (e : DSt d H H1) : ∀ {t : It}, ItAt H v t → ItAt H1 v t
  | .no, h => NoTup.dst hd e h
  | .pr xs, ⟨a, h1, h2, h3⟩ => ⟨a, h1, e.tex hd _ _ h2, h3⟩
theorem VlAt.dst {d : Addr} {H H1 : Hp} {v : V} (hd : DiceAt H d) (e : DSt d H H1) : ∀ {t : Vl}, VlAt H v t → VlAt H1 v t
  | .no, h => NoTup.dst hd e h
  | .rw its, ⟨a, vs, h1, h2, h3, h4⟩ => ⟨a, vs, h1, e.tex hd _ _ h2, Paired.mapP h3 fun _ _ z => z.dst hd e, h4⟩
/-- some tuple of things, of at most k -/
def RowV (H : Hp) (v : V) (k : Nat) : Prop := ∃ a vs its, v = .ref a ∧ H a = some (.tup vs) ∧ Paired (ItAt H) vs its ∧ vs.length ≤ k
theorem RowV.ex {H H' : Hp} {v : V} {k : Nat} (e : Ex H H') (h : RowV H v k) : RowV H' v k := by
  obtain ⟨a, vs, its, h1, h2, h3, h4⟩ := h
  exact ⟨a, vs, its, h1, e _ _ h2, Paired.mapP h3 fun _ _ z => z.ex e, h4⟩
theorem RowV.dst {d : Addr} {H H1 : Hp} {v : V} {k : Nat} (hd : DiceAt H d) (e : DSt d H H1) (h : RowV H v k) : RowV H1 v k := by
  obtain ⟨a, vs, its, h1, h2, h3, h4⟩ := h
  exact ⟨a, vs, its, h1, e.tex hd _ _ h2, Paired.mapP h3 fun _ _ z => z.dst hd e, h4⟩
theorem RowAt.rowV {H : Hp} {p : Addr} {ss : List (Int × Int)} {k : Nat} (h : RowAt H p ss) (hz : ss.length ≤ k) : RowV H (.ref p) k := by
  obtain ⟨as, h1, h2⟩ := h
  exact ⟨p, _, _, rfl, h1, row_its h2, by rw [List.length_map, Paired.length h2]; exact hz⟩
/-! ### expressions that make some described thing -/
def EvI (te : TE) (σ : L2.St) (H : Hp) : Prop := ∀ H1, Ex H H1 → ∀ Q : VK, (∀ v H2 t, Ex H1 H2 → ItAt H2 v t → Q v H2) → te σ H1 Q
def EvIs (ta : TA) (σ : L2.St) (H : Hp) (k : Nat) : Prop := ∀ H1, Ex H H1 → ∀ Q : List V → Hp → Prop, (∀ vs H2 its, Ex H1 H2 → Paired (ItAt H2) vs its → vs.length = k → Q vs H2) → ta σ H1 Q
def EvW (te : TE) (σ : L2.St) (H : Hp) (k : Nat) : Prop := ∀ H1, Ex H H1 → ∀ Q : VK, (∀ v H2, Ex H1 H2 → RowV H2 v k → Q v H2) → te σ H1 Q
def EvV (te : TE) (σ : L2.St) (H : Hp) : Prop := ∀ H1, Ex H H1 → ∀ Q : VK, (∀ v H2 d, Ex H1 H2 → VlAt H2 v d → Q v H2) → te σ H1 Q
def VlsAt (H : Hp) (vs : List V) : Prop := ∃ ds, Paired (VlAt H) vs ds
def EvVs (ta : TA) (σ : L2.St) (H : Hp) (k : Nat) : Prop := ∀ H1, Ex H H1 → ∀ Q : List V → Hp → Prop, (∀ vs H2, Ex H1 H2 → VlsAt H2 vs → vs.length = k → Q vs H2) → ta σ H1 Q
theorem VlsAt.ex {H H' : Hp} {vs : List V} (e : Ex H H') (h : VlsAt H vs) : VlsAt H' vs := by
  obtain ⟨ds, h⟩ := h
  exact ⟨ds, Paired.mapP h fun _ _ z => z.ex e⟩
theorem VlsAt.dst {d : Addr} {H H1 : Hp} {vs : List V} (hd : DiceAt H d) (e : DSt d H H1) (h : VlsAt H vs) : VlsAt H1 vs := by
  obtain ⟨ds, h⟩ := h
  exact ⟨ds, Paired.mapP h fun _ _ z => z.dst hd e⟩
theorem VlsAt.app {H : Hp} {vs ws : List V} (h : VlsAt H vs) (g : VlsAt H ws) : VlsAt H (vs ++ ws) := by
  obtain ⟨ds, h⟩ := h
  obtain ⟨es, g⟩ := g
  exact ⟨ds ++ es, pr_append h g⟩
theorem pr_take {α β : Type} {F : α → β → Prop} : ∀ {xs : List α} {ys : List β} (n : Nat), Paired F xs ys → Paired F (xs.take n) (ys.take n)
  | _, _, 0, _ => .nil
  | _, _, _ + 1, .nil => .nil
  | _, _, n + 1, .cons f t => .cons f (pr_take n t)
theorem pr_drop {α β : Type} {F : α → β → Prop} : ∀ {xs : List α} {ys : List β} (n : Nat), Paired F xs ys → Paired F (xs.drop n) (ys.drop n)
  | _, _, 0, h => h
  | _, _, _ + 1, .nil => .nil
  | _, _, n + 1, .cons _ t => pr_drop n t
section
variable {K : PySem.W.Frag} {σ : L2.St} {H : Hp} {te ta tb : TE} {tr : TA} {tl th : TO} {k j : Nat}
theorem ei_tup {vs : List V} (h : EvA tr σ H vs) (hat : ∀ x ∈ vs, Atm x) (hz : vs.length ≤ 100) : EvI (tTup tr) σ H := fun H1 e Q q =>
  eu_tup h (by omega) H1 e Q fun p H2 _ e2 hp => q (.ref p) H2 (.pr vs) e2 ⟨p, rfl, hp, hat, hz⟩
theorem ei_lst {vs : List V} (h : EvA tr σ H vs) (hz : vs.length ≤ 100) : EvI (tLst tr) σ H := fun H1 e Q q =>
  el_lst h (by omega) H1 e Q fun p H2 _ e2 hp => q (.ref p) H2 .no e2 ⟨"list", kind_lst hp, by decide +kernel⟩
theorem ei_non : EvI (tC .non) σ H := fun H1 e Q q => q .non H1 .no (Ex.refl H1) ⟨"NoneType", kind_non H1, by decide +kernel⟩
theorem ei_var {i : Nat} {v : V} {t : It} (hs : σ[i]? = some (some v)) (h : ItAt H v t) : EvI (tVar i) σ H := fun H1 e Q q => ⟨v, hs, q v H1 t (Ex.refl H1) (h.ex e)⟩
theorem eis_nil : EvIs tNil σ H 0 := fun H1 _ _ q => q [] H1 [] (Ex.refl H1) .nil rfl
theorem eis_cons (h : EvI te σ H) (hr : EvIs tr σ H k) : EvIs (tCons te tr) σ H (k + 1) := fun H1 e Q q =>
  h H1 e _ fun v H2 t e2 hv => hr H2 (e.trans e2) _ fun vs H3 its e3 hvs hz => q (v :: vs) H3 (t :: its) (e2.trans e3) (.cons (hv.ex e3) hvs) (by rw [List.length_cons, hz])
theorem ew_tup (h : EvIs tr σ H k) (hz : k ≤ 1000) : EvW (tTup tr) σ H k := fun H1 e Q q =>
  h H1 e _ fun vs H2 its e2 hvs hl => ⟨sz_of (by omega), fun p hp => q (.ref p) _ (e2.trans (Ex.new hp)) ⟨p, vs, its, rfl, upd_same, Paired.mapP hvs fun _ _ z => z.ex (Ex.new hp), by omega⟩⟩
theorem ew_var {i : Nat} {v : V} (hs : σ[i]? = some (some v)) (h : RowV H v k) : EvW (tVar i) σ H k := fun H1 e Q q => ⟨v, hs, q v H1 (Ex.refl H1) (h.ex e)⟩
theorem ew_slice {lo hi : Option Int} (h : EvW te σ H k) (h1 : EvO tl σ H lo) (h2 : EvO th σ H hi) : EvW (tSl (rSlA K) te tl th) σ H k := fun H1 e Q q =>
  h H1 e _ fun v H2 e2 hv => h1 H2 (e.trans e2) _ fun H3 e3 => h2 H3 ((e.trans e2).trans e3) _ fun H4 e4 => by
    have hv4 := hv.ex (e3.trans e4)
    obtain ⟨a, vs, its, rfl, ha, hp, hz⟩ := id hv4
    have e24 := (e2.trans e3).trans e4
    refine ⟨a, vs, rfl, st_of ha, fun _ => q _ H4 e24 hv4, fun _ p hp2 => q _ _ (e24.trans (Ex.new hp2)) ⟨p, cutV vs lo hi, (its.drop (HT.sIx vs.length 0 lo)).take (HT.sIx vs.length vs.length hi - HT.sIx vs.length 0 lo), rfl, upd_same, ?_, ?_⟩⟩
    · exact Paired.mapP (pr_take _ (pr_drop _ hp)) fun _ _ z => z.ex (Ex.new hp2)
    · exact Nat.le_trans (cutV_length vs lo hi) hz
theorem ew_rev (h : EvW te σ H k) : EvW (tRevT K te) σ H k := fun H1 e Q q =>
  h H1 e _ fun v H2 e2 hv => by
    obtain ⟨a, vs, its, rfl, ha, hp, hz⟩ := hv
    refine ⟨a, vs, rfl, st_of ha, fun p hp2 => q _ _ (e2.trans (Ex.new hp2)) ⟨p, vs.reverse, its.reverse, rfl, upd_same, Paired.mapP (pr_reverse hp) fun _ _ z => z.ex (Ex.new hp2), by rw [List.length_reverse]; exact hz⟩⟩
theorem ew_cat (ha : EvW ta σ H k) (hb : EvW tb σ H j) (hz : k + j ≤ 1000) : EvW (tOp (rCatA K) ta tb) σ H (k + j) := fun H1 e Q q =>
  ha H1 e _ fun v H2 e2 hv => hb H2 (e.trans e2) _ fun u H3 e3 hu => by
    have hv3 := hv.ex e3
    obtain ⟨a, vs, its, rfl, hav, hpv, hzv⟩ := hv3
    obtain ⟨b, us, jts, rfl, hbu, hpu, hzu⟩ := hu
    have e23 := e2.trans e3
    refine ⟨a, b, vs, us, rfl, rfl, st_of hav, st_of hbu, sz_of (by omega), fun _ => q _ H3 e23 ⟨b, us, jts, rfl, hbu, hpu, by omega⟩, fun _ _ => q _ H3 e23 ⟨a, vs, its, rfl, hav, hpv, by omega⟩, fun _ _ p hp => ?_⟩
    exact q _ _ (e23.trans (Ex.new hp)) ⟨p, vs ++ us, its ++ jts, rfl, upd_same, Paired.mapP (pr_append hpv hpu) fun _ _ z => z.ex (Ex.new hp), by rw [List.length_append]; omega⟩
theorem ev_row (h : EvW te σ H k) (hz : k ≤ 1000) : EvV te σ H := fun H1 e Q q =>
  h H1 e _ fun v H2 e2 hv => by
    obtain ⟨a, vs, its, rfl, ha, hp, hl⟩ := hv
    exact q _ H2 (.rw its) e2 ⟨a, vs, rfl, ha, hp, by rw [← Paired.length hp]; omega⟩
theorem vv_non : EvV (tC .non) σ H := fun H1 e Q q => q .non H1 .no (Ex.refl H1) ⟨"NoneType", kind_non H1, by decide +kernel⟩
theorem vv_str {z : Str} : EvV (tC (.str z)) σ H := fun H1 e Q q => q (.str z) H1 .no (Ex.refl H1) ⟨"str", kind_str H1 z, by decide +kernel⟩
theorem vv_int {i : Int} : EvV (tC (.int i)) σ H := fun H1 e Q q => q (.int i) H1 .no (Ex.refl H1) ⟨"int", kind_int H1 i, by decide +kernel⟩
theorem vv_dict : EvV tDNewK σ H := fun H1 e Q q p hp => q (.ref p) _ .no (Ex.new hp) ⟨"dict", kind_dK upd_same, by decide +kernel⟩
theorem vv_list (h : EvW te σ H k) : EvV (tCB (rListS K) (tCons te tNil)) σ H := fun H1 e Q q =>
  h H1 e _ fun v H2 e2 hv => by
    obtain ⟨a, vs, its, rfl, ha, hp, hl⟩ := hv
    exact ⟨a, vs, rfl, .inr (st_of ha), fun l hl2 => q (.ref l) _ .no (e2.trans (Ex.new hl2)) ⟨"list", kind_lst upd_same, by decide +kernel⟩⟩
theorem vs_nil : EvVs tNil σ H 0 := fun H1 _ _ q => q [] H1 (Ex.refl H1) ⟨[], .nil⟩ rfl
theorem vs_cons (h : EvV te σ H) (hr : EvVs tr σ H k) : EvVs (tCons te tr) σ H (k + 1) := fun H1 e Q q =>
  h H1 e _ fun v H2 d e2 hv => hr H2 (e.trans e2) _ fun vs H3 e3 hvs hz => by
    obtain ⟨ds, hds⟩ := hvs
    exact q (v :: vs) H3 (e2.trans e3) ⟨d :: ds, .cons (hv.ex e3) hds⟩ (by rw [List.length_cons, hz])
end
section
variable {P : Program} {w : World} {base : Heap} {K : PySem.W.Frag} {mg : Str → Option Value}
theorem atm2 {a b : V} (ha : Atm a) (hb : Atm b) : ∀ x ∈ [a, b], Atm x := fun x hx => by
  rcases List.mem_cons.mp hx
    with e | hx
  · subst e; exact ha
  · rcases List.mem_cons.mp hx with e | hx
    · subst e; exact hb
    · exact absurd hx List.not_mem_nil
theorem atm3 {a b c : V} (ha : Atm a) (hb : Atm b) (hc : Atm c) : ∀ x ∈ [a, b, c], Atm x := fun x hx => by
  rcases List.mem_cons.mp hx
    with e | hx
  · subst e; exact ha
  · exact atm2 hb hc x hx
/-- ((a, b),) -/
theorem ew_one {σ : L2.St} {H : Hp} {ta tb : TE} {a b : V} (h1 : Ev ta σ H a) (h2 : Ev tb σ H b) (ha : Atm a) (hb : Atm b) : EvV (tTup (tCons (tTup (tCons ta (tCons tb tNil))) tNil)) σ H :=
  ev_row (ew_tup (eis_cons (ei_tup (ea_cons h1 (ea_cons h2 ea_nil)) (atm2 ha hb) (by show 2 ≤ 100; decide)) eis_nil) (by decide)) (by decide)
end
end K17
/-! the walk, twelfth part: the law's values -/
namespace K17
open PySem PySem.Spec PyProof.Rows L2 Evl
section
variable {P : Program} {w : World} {base : Heap} {K : PySem.W.Frag} {mg : Str → Option Value}
theorem q_asgVs {σ : L2.St} {H : Hp} {D : Ends} {tz : TS} {i k : Nat} {ta : TA} (h : EvVs ta σ H k) (hz : k ≤ 1000) (g : ∀ p H1 vs, H p = none → Ex H H1 → H1 p = some (.lst vs) → VlsAt H1 vs → vs.length = k → tz D (σ.set i (some (.ref p))) H1) :
    tSeq (tAsg (tLst ta) (gName i)) tz D σ H := h H (Ex.refl H) _ fun vs H1 e1 hv hl => ⟨sz_of (by omega), fun p np => g p _ vs (fresh_back e1 np) (e1.trans (Ex.new np)) upd_same (hv.ex (Ex.new np)) hl⟩
theorem s_asgCat {σ : L2.St} {H : Hp} {D : Ends} {i j k : Nat} {ta : TA} {p0 : Addr} {ws : List V} (hs : σ[j]? = some (some (.ref p0))) (hp : H p0 = some (.lst ws)) (hw : VlsAt H ws) (hl : ws.length ≤ 1000) (h : EvVs ta σ H k) (hz : k ≤ 1000)
    (g : ∀ p H1 vs, H p = none → Ex H H1 → H1 p = some (.lst vs) → VlsAt H1 vs → vs.length = ws.length + k → D.nx (σ.set i (some (.ref p))) H1) : tAsg (tOp rCat (tVar j) (tLst ta)) (gName i) D σ H := by
  refine ⟨.ref p0, hs, ?_⟩
  refine h H (Ex.refl H) _ fun vs H1 e1 hv hk => ?_
  refine ⟨sz_of (by omega), fun p1 np1 => ?_⟩
  have e2 := Ex.new (o := .lst vs) np1
  refine ⟨p0, p1, ws, vs, rfl, rfl, e2 _ _ (e1 _ _ hp), upd_same, sz_of (by omega), fun p np => ?_⟩
  have e3 := Ex.new (o := .lst (ws ++ vs)) np
  exact g p _ (ws ++ vs) (fresh_back (e1.trans e2) np) ((e1.trans e2).trans e3) upd_same ((hw.ex ((e1.trans e2).trans e3)).app (hv.ex (e2.trans e3))) (by rw [List.length_append, hk])
theorem q_asgCat {σ : L2.St} {H : Hp} {D : Ends} {tz : TS} {i j k : Nat} {ta : TA} {p0 : Addr} {ws : List V} (hs : σ[j]? = some (some (.ref p0))) (hp : H p0 = some (.lst ws)) (hw : VlsAt H ws) (hl : ws.length ≤ 1000) (h : EvVs ta σ H k) (hz : k ≤ 1000)
    (g : ∀ p H1 vs, H p = none → Ex H H1 → H1 p = some (.lst vs) → VlsAt H1 vs → vs.length = ws.length + k → tz D (σ.set i (some (.ref p))) H1) : tSeq (tAsg (tOp rCat (tVar j) (tLst ta)) (gName i)) tz D σ H :=
  s_asgCat (D := { D with nx := tz D }) hs hp hw hl h hz g
abbrev sValues : Stmt := topS 37
theorem scValues : FnScope ["_law_dice_here", "_law_size", "_law_move", "_law_row", "_law_found", "_law_turn", "_law_swap", "_law_at"] ["_law_dice_here", "_law_size", "_law_move", "_law_row"] (defScope sValues) := ⟨rfl, rfl, rfl, by decide +kernel, rfl, by decide +kernel, by decide +kernel⟩
def spValues : Sp := fun vs H Q _ => ∃ (d : Addr) (n : Nat) (m row : V), vs = [.ref d, .int (n : Int), m, row] ∧ DiceAt H d ∧ 0 < n ∧ n ≤ 24 ∧ RowV H row 200 ∧
  ∀ (p : Addr) (H' : Hp) (ws : List V), H p = none → DSt d H H' → H' p = some (.lst ws) → VlsAt H' ws → ws.length ≤ 1000 → Q (.ref p) H'
theorem ok_values (D : DefAt K mg "_law_values" sValues) (ml : mg "len" = none) (mls : mg "list" = none) (mr : mg "range" = none) (S : Has P w K mg base 3 "_law_swap_drawn" ["_law_dice_here", "_law_size"] spSwapDrawn)
    (R : Has P w K mg base 1 "_law_roll" ["_law_dice_here", "_law_total"] spRoll) : Has P w K mg base 4 "_law_values" ["_law_dice_here", "_law_size", "_law_move", "_law_row"] spValues := by
  refine has_of D scValues (fun _ _ _ _ _ _ us hl => match us, hl with | [_, _, _, _], _ => rfl) ?_ ?_
  · rintro vs H Q E ⟨_, _, _, _, rfl, _⟩
    rfl
  rintro f cdv A outer s H vs Q E hr ⟨d, n, m, row, rfl, hd, h0, hn, hrow, q⟩
  refine ⟨_, pss_cons (ps_set (i := 4) scValues.nd rfl (.inl rfl) (pe_lst
      (pa_cons (pv 3) (pa_cons (pe_tup pa_nil) (pa_cons (pe_callTy call_list_of (by rfl) mls boot_list (pa_cons (pv 3) pa_nil)) (pa_cons pe_non (pa_cons pe_str (pa_cons pe_int (pa_cons pe_dnewK
      (pa_cons (pe_slice sl_tupA (pv 3) po_none (po_some (pe_un un_neg pe_int))) (pa_cons (pe_slice sl_tupA (pv 3) (po_some pe_int) po_none) (pa_cons (pe_revT (pv 3))
      (pa_cons (pe_tup (pa_cons pe_non pa_nil)) (pa_cons (pe_tup (pa_cons (pe_tup (pa_cons pe_int (pa_cons pe_int pa_nil))) pa_nil)) (pa_cons (pe_tup (pa_cons (pe_tup (pa_cons pe_int (pa_cons pe_int pa_nil))) pa_nil))
      (pa_cons (pe_tup (pa_cons (pe_tup (pa_cons pe_int (pa_cons (pv 1) pa_nil))) pa_nil)) pa_nil))))))))))))))))
    (pss_cons (ps_set (i := 4) scValues.nd rfl (.inl rfl) (pe_op op_cat (pv 4) (pe_lst
      (pa_cons (pe_tup (pa_cons (pe_tup (pa_cons pe_int (pa_cons pe_bl pa_nil))) pa_nil)) (pa_cons (pe_tup (pa_cons (pe_tup (pa_cons pe_int (pa_cons pe_int (pa_cons pe_int pa_nil)))) pa_nil))
      (pa_cons (pe_tup (pa_cons (pe_lst (pa_cons pe_int (pa_cons pe_int pa_nil))) pa_nil)) (pa_cons (pe_tup (pa_cons (pe_tup (pa_cons (pe_un un_neg pe_int) (pa_cons pe_int pa_nil))) pa_nil))
      (pa_cons (pe_op op_catA (pv 3) (pe_revT (pv 3))) (pa_cons (pe_tup (pa_cons (pe_tup (pa_cons pe_str (pa_cons pe_int pa_nil))) pa_nil)) pa_nil)))))))))
    (pss_cons (ps_for PassesOwn.never rfl (pi_range1 (by rfl) mr (pa_cons (pe_ifExp (pt_cmpR op_gt (pv 1) pe_int (nomark _)) pe_int pe_int) pa_nil)) (pg_name (i := 5) scValues.nd rfl (.inl rfl))
      (pss_cons (ps_set (i := 6) scValues.nd rfl (.inl rfl) (pe_has S hr (by rfl) (pa_cons (pv 0) (pa_cons (pv 1) pa_nil))))
      (pss_cons (ps_set (i := 7) scValues.nd rfl (.inl rfl) (pe_has R (hr.mono (by decide)) (by rfl) (pa_cons (pv 0) (pa_cons (pe_op op_add (pe_callB call_len_seq (by rfl) ml PySem.boot_len (pa_cons (pv 3) pa_nil)) pe_int) pa_nil))))
      (pss_one (ps_set (i := 4) scValues.nd rfl (.inl rfl) (pe_op op_cat (pv 4) (pe_lst
        (pa_cons (pe_op op_catA (pv 3) (pe_tup (pa_cons (pv 6) pa_nil))) (pa_cons (pe_op op_catA (pe_op op_catA (pe_slice sl_tupA (pv 3) po_none (po_some (pv 7))) (pe_tup (pa_cons (pv 6) (pa_cons (pv 6) pa_nil)))) (pe_slice sl_tupA (pv 3) (po_some (pv 7)) po_none))
        (pa_cons (pe_op op_catA (pe_tup (pa_cons (pv 6) pa_nil)) (pe_slice sl_tupA (pv 3) (po_some pe_int) po_none)) pa_nil))))))))))
    (pss_one (ps_ret (pv 4))))), ?_⟩
  have at0 : ∀ i : Int, Atm (.int i) := fun _ => trivial
  -- found = [.., 14 values]
  refine q_asgVs (k := 14) ?_ (by decide) fun p1 H2 vs1 np1 e02 l2 v2 hz1 => ?_
  · refine vs_cons (ev_row (ew_var (v := row) rfl hrow) (by decide)) ?_
    refine vs_cons (ev_row (ew_tup (k := 0) eis_nil (by decide)) (by decide)) ?_
    refine vs_cons (vv_list (ew_var (v := row) rfl hrow)) ?_
    refine vs_cons vv_non (vs_cons vv_str (vs_cons vv_int (vs_cons vv_dict ?_)))
    refine vs_cons (ev_row (ew_slice (ew_var (v := row) rfl hrow) eo_none (eo_some (ev_un (ev_c (v := .int 1)) ru_neg))) (by decide)) ?_
    refine vs_cons (ev_row (ew_slice (ew_var (v := row) rfl hrow) (eo_some (ev_c (v := .int 1))) eo_none) (by decide)) ?_
    refine vs_cons (ev_row (ew_rev (ew_var (v := row) rfl hrow)) (by decide)) ?_
    refine vs_cons (ev_row (ew_tup (eis_cons ei_non eis_nil) (by decide)) (by decide)) ?_
    refine vs_cons (ew_one ev_c ev_c (at0 _) (at0 _)) ?_
    refine vs_cons (ew_one ev_c ev_c (at0 _) (at0 _)) ?_
    exact vs_cons (ew_one ev_c (ev_var (v := .int (n : Int)) rfl) (at0 _) (at0 _)) vs_nil
  have hrow2 := hrow.ex e02
  -- found = found + [.., 6 values]
  refine q_asgCat (k := 6) rfl l2 v2 (by omega) ?_ (by decide) fun p5 H5 vs5 np5 e25 l5 hv5 hz5 => ?_
  · refine vs_cons (ew_one ev_c ev_c (at0 _) trivial) ?_
    refine vs_cons (ev_row (ew_tup (eis_cons (ei_tup (ea_cons ev_c (ea_cons ev_c (ea_cons ev_c ea_nil))) (atm3 (at0 _) (at0 _) (at0 _)) (by show 3 ≤ 100; decide)) eis_nil) (by decide)) (by decide)) ?_
    refine vs_cons (ev_row (ew_tup (eis_cons (ei_lst (ea_cons ev_c (ea_cons ev_c ea_nil)) (by show 2 ≤ 100; decide)) eis_nil) (by decide)) (by decide)) ?_
    refine vs_cons (ew_one (ev_un (ev_c (v := .int 1)) ru_neg) ev_c (at0 _) (at0 _)) ?_
    refine vs_cons (ev_row (ew_cat (ew_var (v := row) rfl hrow2) (ew_rev (ew_var (v := row) rfl hrow2)) (by decide)) (by decide)) ?_
    exact vs_cons (ew_one ev_c ev_c trivial (at0 _)) vs_nil
  have e05 := e02.trans e25
  have np0 : H p5 = none := fresh_back e02 np5
  -- the loop
  refine q_forR1 (n := if (1 : Int) < n then 3 else 0) (ea_cons (ev_is (ev_if (v := .int (if (1 : Int) < n then 3 else 0)) (b := decide ((1 : Int) < n)) (et_test (ev_op (ev_var (v := .int (n : Int)) rfl) (ev_c (v := .int 1)) rv_I0)) (fun hb => ?_) (fun hb => ?_)) rfl) ea_nil) (by split <;> omega)
    (fun i σ' H' => ∃ y5 y6 y7 fo ws, σ' = [some (.ref d), some (.int (n : Int)), some m, some row, some (.ref fo), y5, y6, y7] ∧ DSt d H H' ∧ H fo = none ∧ H' fo = some (.lst ws) ∧ VlsAt H' ws ∧ ws.length = 20 + 3 * i)
    (fun H6 e6 => ⟨none, none, none, p5, vs5, rfl, .of hd (e05.trans e6), np0, e6 _ _ l5, hv5.ex e6, by omega⟩) ?_ ?_
  · rw [if_pos (of_decide_eq_true hb)]
    exact ev_c
  · rw [if_neg (of_decide_eq_false hb)]
    exact ev_c
  · rintro i σ' H' hi ⟨y5, y6, y7, fo, ws, rfl, hst, nfo, hfo, hws, hz⟩
    have h2 : 2 ≤ n ∧ i < 3 := by
      by_cases c : (1 : Int) < n
      · rw [if_pos c] at hi
        omega
      · rw [if_neg c] at hi
        omega
    -- swap = swap_drawn(dice, size)
    refine ⟨.ref d, rfl, .int (n : Int), rfl, d, n, rfl, hst.dice, h2.1, by omega, fun sw H6 sp nsw hst6 hsw => ?_⟩
    have fo6 := hst6.keep _ _ (dice_ne hd nfo) hfo
    have hst06 := hst.trans hst6
    -- at = roll(dice, len(row) + 1)
    obtain ⟨ra, rvs, rits, rfl, hra, hrp, hrl⟩ := hrow.dst hd hst06
    refine ⟨.ref d, rfl, .ref ra, rfl, ra, rvs, rfl, .inr (st_of hra), (rvs.length : Int), 1, rfl, rfl, d, rvs.length + 1, by rw [Int.natCast_succ]; rfl, hst6.dice, by omega, by omega, fun at_ H7 hat hst7 => ?_⟩
    have hst07 := hst06.trans hst7
    have fo7 := hst7.keep _ _ (dice_ne hd nfo) fo6
    have hrow7 := hrow.dst hd hst07
    have hsw7 : ItAt H7 (.ref sw) (.pr [.int sp.1, .int sp.2]) := ItAt.dst hst6.dice hst7 ⟨sw, rfl, hsw, atm2 (at0 _) (at0 _), by show 2 ≤ 100; decide⟩
    have hws7 := (hws.dst hst.dice hst6).dst hst6.dice hst7
    dsimp only
    refine s_asgCat (k := 3) rfl fo7 hws7 (by omega) ?_ (by decide) fun p10 H10 vs10 np10 e710 l10 hv10 hz10 => ?_
    · refine vs_cons (ev_row (ew_cat (ew_var (v := .ref ra) rfl hrow7) (ew_tup (eis_cons (ei_var (v := .ref sw) rfl hsw7) eis_nil) (by decide)) (by decide)) (by decide)) ?_
      refine vs_cons (ev_row (ew_cat (ew_cat (ew_slice (ew_var (v := .ref ra) rfl hrow7) eo_none (eo_some (ev_var (v := .int (at_ : Int)) rfl))) (ew_tup (eis_cons (ei_var (v := .ref sw) rfl hsw7) (eis_cons (ei_var (v := .ref sw) rfl hsw7) eis_nil)) (by decide)) (by decide))
        (ew_slice (ew_var (v := .ref ra) rfl hrow7) (eo_some (ev_var (v := .int (at_ : Int)) rfl)) eo_none) (by decide)) (by decide)) ?_
      exact vs_cons (ev_row (ew_cat (ew_tup (eis_cons (ei_var (v := .ref sw) rfl hsw7) eis_nil) (by decide)) (ew_slice (ew_var (v := .ref ra) rfl hrow7) (eo_some (ev_c (v := .int 1))) eo_none) (by decide)) (by decide)) vs_nil
    exact ⟨_, _, _, p10, vs10, rfl, hst07.ex e710, hst07.back hd np10, l10, hv10, by omega⟩
  · rintro σ' H' ⟨y5, y6, y7, fo, ws, rfl, hst, nfo, hfo, hws, hz⟩
    refine ⟨.ref fo, rfl, q fo H' ws nfo hst hfo hws ?_⟩
    rw [hz]
    split <;> omega
end
end K17
/-! the walk, thirteenth part: whether rows of drawn lengths are told and judged -/
namespace K17
open PySem PySem.Spec PyProof.Rows L2 Evl
/-! ### a told row is judged as one -/
theorem ss_its (ss : List (Int × Int)) : ssOf (.rw (ss.map swIt)) = ss := by
  show (ss.map swIt).map swOf = ss
  rw [List.map_map]
  have : (swOf ∘ swIt) = id := funext fun s => rfl
  rw [this, List.map_id]
theorem row_good {n : Nat} {ss : List (Int × Int)} (h : ∀ s ∈ ss, okSwap n s) (hz : ss.length ≤ 200) : rowOkB n (.rw (ss.map swIt)) = true := by
  show (decide ((ss.map swIt).length ≤ 200) && (ss.map swIt).all (swOkB n)) = true
  rw [List.length_map, decide_eq_true hz, Bool.true_and, List.all_map, List.all_eq_true]
  intro s hs
  obtain ⟨h1, h2, h3⟩ := h s hs
  show (decide (0 ≤ s.1) && (decide (s.1 < s.2) && decide (s.2 < (n : Int)))) = true
  rw [decide_eq_true h1, decide_eq_true h2, decide_eq_true h3]
  rfl
theorem judge_good {n : Nat} {mv : List Int} {ss : List (Int × Int)} (h : ∀ s ∈ ss, okSwap n s) (hz : ss.length ≤ 200) (hp : prodL n ss = mv) : judge n mv (.rw (ss.map swIt)) = true := by
  unfold judge
  rw [row_good h hz, ss_its, hp, decide_eq_true rfl]
  rfl
/-- what row_of told: None, or a row -/
def Told (H : Hp) (told : V) (mv : List Int) (many : Int) : Prop := (rowOf mv many = none ∧ told = .non) ∨ ∃ p ss, rowOf mv many = some ss ∧ told = .ref p ∧ RowAt H p ss
theorem Told.ex {H H1 : Hp} {told : V} {mv : List Int} {many : Int} (e : Ex H H1) (h : Told H told mv many) : Told H1 told mv many := by
  rcases h with h | ⟨p, ss, h1, h2, h3⟩
  · exact .inl h
  · exact .inr ⟨p, ss, h1, h2, h3.ex (TEx.of e)⟩
theorem told_of {H : Hp} {mv : List Int} {many : Int} {Q : VK} (h : ∀ told H1, Ex H H1 → Told H1 told mv many → Q told H1) : RetRow? (rowOf mv many) H Q := by
  cases e : rowOf mv many with
  | none => exact fun H1 e1 => h .non H1 e1 (.inl ⟨e, rfl⟩)
  | some ss => exact fun p H1 _ e1 hr => h (.ref p) H1 e1 (.inr ⟨p, ss, e, rfl, hr⟩)
section
variable {K : PySem.W.Frag} {σ : L2.St} {H : Hp} {ta tb te : TE} {y z : V} {r : R2}
theorem ev_opU1 {xs : List V} (ha : EvU ta σ H xs) (hb : ∀ H1, Ex H H1 → Ev tb σ H1 y) (hr : ∀ p H1, H1 p = some (.tup xs) → Ex H H1 → RV r (.ref p) y H1 z) : Ev (tOp r ta tb) σ H z := fun H1 e Q q =>
  ha H1 e _ fun p H2 _ e2 hp => hb H2 (e.trans e2) H2 (Ex.refl H2) _ fun H3 e3 =>
    hr p H3 (e3 p _ hp) ((e.trans e2).trans e3) H3 (Ex.refl H3) Q fun H4 e4 => q H4 ((e2.trans e3).trans e4)
def rIsN1 : R2 := fun x y H Q => y = .non ∧ Q (.bl (decide (x = .non))) H
def rNotN1 : R2 := fun x y H Q => y = .non ∧ Q (.bl (!decide (x = .non))) H
theorem rv_isN {x : V} : RV rIsN1 x .non H (.bl (decide (x = .non))) := fun H1 e Q q => ⟨rfl, q H1 (Ex.refl H1)⟩
theorem rv_notN {x : V} : RV rNotN1 x .non H (.bl (!decide (x = .non))) := fun H1 e Q q => ⟨rfl, q H1 (Ex.refl H1)⟩
def rReprB : List V → Hp → VK → Prop := fun xs H Q => ∃ b, xs = [.bl b] ∧ Q (.str (boolText b)) H
theorem rc_repr {b : Bool} : RC rReprB [.bl b] H (.str (boolText b)) := fun H1 e Q q => ⟨b, rfl, q H1 (Ex.refl H1)⟩
/-- the row's product beside the move -/
theorem eu_prod {n : Nat} {p : Addr} {ss : List (Int × Int)} {t1 t2 : TE} (h1 : Ev t1 σ H (.int (n : Int))) (h2 : Ev t2 σ H (.ref p)) (hr : RowAt H p ss) (hn : n ≤ 1000) : EvU (tCall spProduct [] E0 (tCons t1 (tCons t2 tNil))) σ H ((prodL n ss).map V.int) :=
  eu_call (ea_cons h1 (ea_cons h2 ea_nil)) fun H3 e3 Q3 q3 E3 => ⟨n, p, ss, rfl, hr.ex (TEx.of e3), hn, q3⟩
/-- the law's own judging of a value -/
theorem ev_due {n : Nat} {m : Addr} {mv : List Int} {v : V} {d : Vl} {t1 t2 t3 : TE} (h1 : ∀ H1, Ex H H1 → Ev t1 σ H1 (.int (n : Int))) (h2 : ∀ H1, Ex H H1 → Ev t2 σ H1 v) (h3 : ∀ H1, Ex H H1 → Ev t3 σ H1 (.ref m)) (hm : IntsAt H m mv) (hv : VlAt H v d) (hn : n ≤ 24) :
    Ev (tAndV (tCall spRowIn [] E0 (tCons t1 (tCons t2 tNil))) (tOp (rEqD K) (tCall spProduct [] E0 (tCons t1 (tCons t2 tNil))) t3)) σ H (.bl (judge n mv d)) := by
  refine ev_andV (ev_call (ea_cons (h1 H (Ex.refl H)) (ea_cons (h2 H (Ex.refl H)) ea_nil)) (fun H2 e2 Q2 q2 E2 => ⟨n, v, d, rfl, hv.ex e2, by omega, q2⟩)) (fun hok => ?_)
  obtain ⟨a, rfl, hrow⟩ := rowAt_of hv hok
  exact ev_opU1 (eu_prod (h1 H (Ex.refl H)) (h2 H (Ex.refl H)) hrow (by omega)) h3 fun p H1 hp e1 => rv_eqT hp (e1 _ _ hm)
end
section
variable {P : Program} {w : World} {base : Heap} {K : PySem.W.Frag} {mg : Str → Option Value}
abbrev sRight : Stmt := topS 38
theorem scRight : FnScope ["_law_dice_here", "_law_size", "_law_move", "_law_many", "_law_told", "_law_row", "_law_value", "_law_due"] ["_law_dice_here"] (defScope sRight) := ⟨rfl, rfl, rfl, by decide +kernel, rfl, by decide +kernel, by decide +kernel⟩
def spRight : Sp := fun vs H Q _ => ∃ d : Addr, vs = [.ref d] ∧ DiceAt H d ∧ ∀ H', DSt d H H' → Q (.bl true) H'
/-- the slots, and what is known -/
def RtIn (H : Hp) (d m : Addr) (n : Nat) (mv : List Int) (k : Nat) (told : V) (H' : Hp) : Prop := DSt d H H' ∧ IntsAt H' m mv ∧ Told H' told mv (k : Int)
theorem ok_right (D : DefAt K mg "_law_right" sRight) (ml : mg "len" = none) (mrp : mg "repr" = none)
    (R : Has P w K mg base 1 "_law_roll" ["_law_dice_here", "_law_total"] spRoll) (MD : Has P w K mg base 3 "_law_move_drawn" ["_law_dice_here", "_law_size"] spMoveDrawn) (PK : Has P w K mg base 2 "_law_pick" ["_law_dice_here", "_law_items"] spPick)
    (RO : Has P w K mg base 6 "row_of" ["move", "many"] spRowOf) (CB : Has P w K mg base 2 "_law_can_be" ["_law_move", "_law_many"] spCanBe) (MR : Has P w K mg base 1 "_law_mv_is_row" ["_law_size", "_law_row"] spRowIn)
    (RP : Has P w K mg base 2 "_law_row_product" ["_law_size", "_law_row"] spProduct) (IR : Has P w K mg base 6 "is_row_of" ["move", "value"] spIsRowOf) (RD : Has P w K mg base 4 "_law_row_drawn" ["_law_dice_here", "_law_size", "_law_many"] spRowDrawn)
    (VS : Has P w K mg base 4 "_law_values" ["_law_dice_here", "_law_size", "_law_move", "_law_row"] spValues) : Has P w K mg base 7 "_law_right" ["_law_dice_here"] spRight := by
  refine has_of D scRight (fun _ _ _ _ _ _ us hl => match us, hl with | [_], _ => rfl) ?_ ?_
  · rintro vs H Q E ⟨_, rfl, _⟩
    rfl
  rintro f cdv A outer s H vs Q E hr ⟨d, rfl, hd, q⟩
  refine ⟨_, pss_cons (ps_set (i := 1) scRight.nd rfl (.inl rfl) (pe_op op_add pe_int (pe_has R (hr.mono (by decide)) (by rfl) (pa_cons (pv 0) (pa_cons pe_int pa_nil)))))
    (pss_cons (ps_par (i := 2) (j := 3) rfl scRight.nd rfl rfl (by decide) rfl rfl (pa_cons (pe_has MD (hr.mono (by decide)) (by rfl) (pa_cons (pv 0) (pa_cons (pv 1) pa_nil)))
        (pa_cons (pe_has R (hr.mono (by decide)) (by rfl) (pa_cons (pv 0) (pa_cons (pe_has PK (hr.mono (by decide)) (by rfl) (pa_cons (pv 0) (pa_cons (pe_lst (pa_cons pe_int (pa_cons pe_int (pa_cons pe_int pa_nil)))) pa_nil))) pa_nil))) pa_nil)) (by rfl))
    (pss_cut (ps_set (i := 4) scRight.nd rfl (.inl rfl) (pe_has RO hr (by rfl) (pa_cons (pv 2) (pa_cons (pv 3) pa_nil))))
    (pss_cut (ps_if (pt_cmpR op_eq (pe_cmpR op_isN (pv 4) pe_non (nomark _)) (pe_has CB (hr.mono (by decide)) (by rfl) (pa_cons (pv 2) (pa_cons (pv 3) pa_nil))) (nomark _)) (pss_one (ps_ret pe_bl)) pss_nil)
    (pss_cut (ps_if (pt_cmpR op_notN (pv 4) pe_non (nomark _))
        (pss_cons (ps_if (PW.pt (pw_or (pt_not (pt_val (pe_has MR (hr.mono (by decide)) (by rfl) (pa_cons (pv 1) (pa_cons (pv 4) pa_nil))))) (pw_or (pt_cmpR op_ne (pe_callB call_len_seq (by rfl) ml PySem.boot_len (pa_cons (pv 4) pa_nil)) (pv 3) (nomark _))
          (pw_or1 (pt_cmpR (op_neD hr.units) (pe_has RP (hr.mono (by decide)) (by rfl) (pa_cons (pv 1) (pa_cons (pv 4) pa_nil))) (pv 2) (nomark _)))))) (pss_one (ps_ret pe_bl)) pss_nil)
        (pss_one (ps_if (pt_not (pt_val (pe_has IR hr (by rfl) (pa_cons (pv 2) (pa_cons (pv 4) pa_nil))))) (pss_one (ps_ret pe_bl)) pss_nil))) pss_nil)
    (pss_cut (ps_set (i := 5) scRight.nd rfl (.inl rfl) (pe_ifExp (pt_cmpR op_notN (pv 4) pe_non (nomark _)) (pv 4) (pe_ifExp (pt_cmpR op_gt (pv 1) pe_int (nomark _)) (pe_has RD (hr.mono (by decide)) (by rfl) (pa_cons (pv 0) (pa_cons (pv 1) (pa_cons (pe_op op_mod (pv 3) pe_int) pa_nil)))) (pe_tup pa_nil))))
    (pss_cons (ps_for PassesOwn.never rfl (pi_list (pe_has VS (hr.mono (by decide)) (by rfl) (pa_cons (pv 0) (pa_cons (pv 1) (pa_cons (pv 2) (pa_cons (pv 5) pa_nil)))))) (pg_name (i := 6) scRight.nd rfl (.inl rfl))
      (pss_cons (ps_set (i := 7) scRight.nd rfl (.inl rfl) (pe_and (pe_has MR (hr.mono (by decide)) (by rfl) (pa_cons (pv 1) (pa_cons (pv 6) pa_nil))) (pe_one (pe_cmpR (op_eqD hr.units) (pe_has RP (hr.mono (by decide)) (by rfl) (pa_cons (pv 1) (pa_cons (pv 6) pa_nil))) (pv 2) (nomark _)))))
      (pss_one (ps_if (pt_cmpR op_ne (pe_callB call_repr_bool (by rfl) mrp (by decide +kernel) (pa_cons (pe_has IR hr (by rfl) (pa_cons (pv 2) (pa_cons (pv 6) pa_nil))) pa_nil)) (pe_callB call_repr_bool (by rfl) mrp (by decide +kernel) (pa_cons (pv 7) pa_nil)) (nomark _)) (pss_one (ps_ret pe_bl)) pss_nil))))
    (pss_one (ps_ret pe_bl)))))))), ?_⟩
  -- size = 1 + roll(dice, 8)
  refine ⟨.ref d, rfl, d, 8, rfl, hd, by decide, by decide, fun r0 H1 hr0 st1 => ⟨1, (r0 : Int), rfl, rfl, ?_⟩⟩
  dsimp only
  obtain ⟨n, hn⟩ : ∃ n : Nat, n = r0 + 1 := ⟨_, rfl⟩
  rw [show (1 : Int) + (r0 : Int) = (n : Int) by omega]
  have n0 : 0 < n := by omega
  have n8 : n ≤ 8 := by omega
  -- move, many = ..
  refine ⟨.ref d, rfl, .int (n : Int), rfl, d, n, rfl, st1.dice, by omega, fun m H2 mv nm st2 hm hp => ?_⟩
  have st02 := st1.trans st2
  refine ⟨.ref d, rfl, .ref d, rfl, by show 3 ≤ sizeLine; decide, fun l nl => ?_⟩
  have e3 := Ex.new (o := .lst [.int 5, .int 12, .int 41]) nl
  have st03 := st02.ex e3
  refine ⟨d, l, [5, 12, 41], rfl, st03.dice, upd_same, dice_ne st02.dice nl, by decide, by decide, fun x H4 hx st4 => ?_⟩
  obtain ⟨x', ex, hx1, hx2⟩ : ∃ x' : Nat, x = (x' : Int) ∧ 0 < x' ∧ x' ≤ 41 := by
    rcases List.mem_cons.mp hx
      with e | hx
    · exact ⟨5, e, by decide, by decide⟩
    rcases List.mem_cons.mp hx
      with e | hx
    · exact ⟨12, e, by decide, by decide⟩
    rcases List.mem_cons.mp hx
      with e | hx
    · exact ⟨41, e, by decide, by decide⟩
    · exact absurd hx List.not_mem_nil
  rw [ex]
  refine ⟨d, x', rfl, st4.dice, hx1, by omega, fun k H5 hk st5 => ⟨.ref m, .int (k : Int), rfl, ?_⟩⟩
  have st05 := (st03.trans st4).trans st5
  have hm5 : IntsAt H5 m mv := st5.tex st4.dice _ _ (st4.tex st03.dice _ _ (e3 _ _ hm))
  have hmv := Mv.of_perm hp
  dsimp only
  -- told = row_of(move, many)
  refine ⟨fun σ' H' => ∃ told, σ' = [some (.ref d), some (.int (n : Int)), some (.ref m), some (.int (k : Int)), some told, none, none, none] ∧ RtIn H d m n mv k told H', ?_, ?_⟩
  · refine ⟨.ref m, rfl, .int (k : Int), rfl, n, m, mv, (k : Int), rfl, hm5, hp, n0, by omega, by omega, by omega, told_of fun told H6 e6 ht => ?_⟩
    exact ⟨told, rfl, st05.ex e6, e6 _ _ hm5, ht⟩
  rintro σ' H6 ⟨told, rfl, st6, hm6, ht6⟩
  have hcan : decide (told = .non) = !canB n mv (k : Int) := by
    have hiff := rowOf_none n0 hmv (k : Int) (by omega)
    rcases ht6 with ⟨h1, rfl⟩ | ⟨p, ss, h1, rfl, _⟩
    · have : canB n mv (k : Int) = false := by
        rw [← Bool.not_eq_true]
        exact fun z => hiff.mp h1 (canB_iff.mp z)
      rw [this, decide_eq_true rfl]
      rfl
    · have : canB n mv (k : Int) = true := by
        refine canB_iff.mpr (Classical.byContradiction fun z => ?_)
        rw [hiff.mpr z] at h1
        cases h1
      rw [this, decide_eq_false (fun z => nomatch z)]
      rfl
  -- if (told is None) == can_be(move, many)
  refine ⟨fun σ' H' => σ' = [some (.ref d), some (.int (n : Int)), some (.ref m), some (.int (k : Int)), some told, none, none, none] ∧ RtIn H d m n mv k told H', ?_, ?_⟩
  · refine s_when (b := false) (et_is (et_test (ev_op (ev_op (ev_var (v := told) rfl) (ev_c (v := .non)) rv_isN) (ev_call (ea_cons (ev_var (v := .ref m) rfl) (ea_cons (ev_var (v := .int (k : Int)) rfl) ea_nil)) (fun H7 e7 Q7 q7 E7 => ⟨m, n, mv, (k : Int), rfl, e7 _ _ hm6, hmv, n0, by omega, q7⟩)) (rv_eq rfl))) ?_) (fun h => nomatch h) (fun _ H7 e7 => ⟨rfl, st6.ex e7, e7 _ _ hm6, ht6.ex e7⟩)
    rw [hcan]
    cases canB n mv (k : Int) <;> decide
  rintro σ' H7 ⟨rfl, st7, hm7, ht7⟩
  -- if told is not None
  refine ⟨fun σ' H' => σ' = [some (.ref d), some (.int (n : Int)), some (.ref m), some (.int (k : Int)), some told, none, none, none] ∧ RtIn H d m n mv k told H', ?_, ?_⟩
  · refine s_when (et_test (ev_op (ev_var (v := told) rfl) (ev_c (v := .non)) rv_notN)) (fun hb H8 e8 => ?_) (fun hb H8 e8 => ⟨rfl, st7.ex e8, e8 _ _ hm7, ht7.ex e8⟩)
    have ht8 := ht7.ex e8
    have hm8 : IntsAt H8 m mv := e8 _ _ hm7
    obtain ⟨p, ss, hro, rfl, hrow⟩ : ∃ p ss, rowOf mv (k : Int) = some ss ∧ told = .ref p ∧ RowAt H8 p ss := by
      rcases ht8 with ⟨_, rfl⟩ | h
      · cases hb
      · exact h
    obtain ⟨g1, g2, g3⟩ := rowOf_some n0 hmv (by omega) hro
    have hz : ss.length ≤ 200 := by omega
    refine q_when (b := false) (et_is (et_or (et_not (et_B (ev_call (ea_cons (ev_var (v := .int (n : Int)) rfl) (ea_cons (ev_var (v := .ref p) rfl) ea_nil)) (fun H9 e9 Q9 q9 E9 => ⟨n, .ref p, .rw (ss.map swIt), rfl, (hrow.vl (by omega)).ex e9, by omega, q9⟩))))
      (fun _ => et_or (et_test (ev_op (ev_cb (ea_cons (ev_var (v := .ref p) rfl) ea_nil) (row_len hrow)) (ev_var (v := .int (k : Int)) rfl) (rv_ne rfl)))
        (fun _ => et_test (ev_opU1 (eu_prod (ev_var (v := .int (n : Int)) rfl) (ev_var (v := .ref p) rfl) hrow (by omega)) (fun H9 e9 => ev_var (v := .ref m) rfl) (fun p' H9 hp' e9 => rv_neT hp' (e9 _ _ hm8)))))) ?_) (fun h => nomatch h) fun _ H9 e9 => ?_
    · rw [row_good g2 hz, g1, g3, decide_eq_true rfl, decide_eq_true rfl]
      rfl
    · refine s_when (b := false) (et_is (et_not (et_B (ev_call (ea_cons (ev_var (v := .ref m) rfl) (ea_cons (ev_var (v := .ref p) rfl) ea_nil)) (fun Ha ea Qa qa Ea => ⟨n, m, mv, .ref p, .rw (ss.map swIt), rfl, ea _ _ (e9 _ _ hm8), hp, n0, by omega, (hrow.vl (by omega)).ex (e9.trans ea), qa⟩)))) ?_) (fun h => nomatch h)
        (fun _ Ha ea => ⟨rfl, st7.ex ((e8.trans e9).trans ea), ea _ _ (e9 _ _ hm8), .inr ⟨p, ss, hro, rfl, hrow.ex (TEx.of (e9.trans ea))⟩⟩)
      rw [judge_good g2 hz g3]
      rfl
  rintro σ' H8 ⟨rfl, st8, hm8, ht8⟩
  -- row = ..
  refine ⟨fun σ' H' => ∃ row, σ' = [some (.ref d), some (.int (n : Int)), some (.ref m), some (.int (k : Int)), some told, some row, none, none] ∧ DSt d H H' ∧ IntsAt H' m mv ∧ RowV H' row 200, ?_, ?_⟩
  · rcases ht8 with ⟨h1, rfl⟩ | ⟨p, ss, h1, rfl, hrow⟩
    · refine ⟨.non, rfl, rfl, false, rfl, ?_⟩
      refine iteF ?_
      refine ⟨.int (n : Int), rfl, (n : Int), 1, rfl, rfl, decide ((1 : Int) < n), rfl, ?_⟩
      refine ite2 (fun hc => ?_) (fun hc => ?_)
      · have hc' : (1 : Int) < n := of_decide_eq_true hc
        refine ⟨.ref d, rfl, .int (n : Int), rfl, .int (k : Int), rfl, (k : Int), 7, rfl, rfl, (show (0 : Int) < 7 by decide), d, n, k % 7, by rw [Int.natCast_emod]; rfl, st8.dice, by omega, by omega, by omega, fun p H9 ss np st9 hrow hz => ?_⟩
        exact ⟨.ref p, rfl, st8.trans st9, st9.tex st8.dice _ _ hm8, hrow.rowV (by omega)⟩
      · refine ⟨Nat.zero_le _, fun p np => ?_⟩
        have e9 := Ex.new (o := .tup []) np
        exact ⟨.ref p, rfl, st8.ex e9, e9 _ _ hm8, p, [], [], rfl, upd_same, .nil, Nat.zero_le _⟩
    · refine ⟨.ref p, rfl, rfl, true, rfl, ?_⟩
      refine iteT ?_
      obtain ⟨g1, _, _⟩ := rowOf_some n0 hmv (by omega) h1
      exact ⟨.ref p, rfl, .ref p, rfl, st8, hm8, hrow.rowV (by omega)⟩
  rintro σ' H9 ⟨row, rfl, st9, hm9, hrow⟩
  -- the loop over the values
  refine ⟨.ref d, rfl, .int (n : Int), rfl, .ref m, rfl, row, rfl, d, n, .ref m, row, rfl, st9.dice, n0, by omega, hrow, fun p Ha ws np sta hws hvl hz => ?_⟩
  have st0a := st9.trans sta
  have hma := sta.tex st9.dice _ _ hm9
  refine ⟨p, rfl, ⟨ws, sq_of hws⟩, for_list (xs := ws) (fun i σ' H' => ∃ y6 y7, σ' = [some (.ref d), some (.int (n : Int)), some (.ref m), some (.int (k : Int)), some told, some row, y6, y7] ∧ Ex Ha H') ⟨none, none, rfl, Ex.refl Ha⟩ ?_ ?_ ?_⟩
  · rintro i σ' H' _ ⟨y6, y7, rfl, e'⟩
    exact sq_of (e' _ _ hws)
  · rintro i v σ' H' hv ⟨y6, y7, rfl, e'⟩
    obtain ⟨ds, hds⟩ := hvl
    obtain ⟨dv, hdv, hval⟩ := pr_get hds hv
    have hval' := hval.ex e'
    have hm' : IntsAt H' m mv := e' _ _ hma
    refine q_asg (ev_due (fun _ _ => ev_var (v := .int (n : Int)) rfl) (fun _ _ => ev_var (v := v) rfl) (fun _ _ => ev_var (v := .ref m) rfl) hm' hval' (by omega)) fun Hb eb => ?_
    refine s_when (b := false) (et_is (et_test (ev_op (ev_cb (ea_cons (ev_call (ea_cons (ev_var (v := .ref m) rfl) (ea_cons (ev_var (v := v) rfl) ea_nil)) (fun Hc ec Qc qc Ec => ⟨n, m, mv, v, dv, rfl, ec _ _ (eb _ _ hm'), hp, n0, by omega, hval'.ex (eb.trans ec), qc⟩)) ea_nil) rc_repr)
      (ev_cb (ea_cons (ev_var (v := .bl (judge n mv dv)) rfl) ea_nil) rc_repr) (rv_ne rfl))) ?_) (fun h => nomatch h) (fun _ Hc ec => ⟨_, _, rfl, (e'.trans eb).trans ec⟩)
    rw [decide_eq_true rfl]
    rfl
  · rintro σ' H' ⟨y6, y7, rfl, e'⟩
    exact q H' (st0a.ex e')
end
end K17
/-! the walk, fourteenth part: the law -/
namespace K17
open PySem PySem.Spec PyProof.Rows L2 Evl
mutual
theorem dp_ex {K : PySem.W.Frag} {H H1 : Hp} (e : Ex H H1) : ∀ (d : PyData) (v : V), Dp K H v d → Dp K H1 v d
  | .none, _, h => by cases h; exact .non
  | .bool b, _, h => by cases h; exact .bl b
  | .int i, _, h => by cases h; exact .int i
  | .str x, _, h => by cases h; exact .str x
  | .list ds, _, h => by
    cases h with
    | lst hs ha => exact .lst (ex_l e hs) (dps_ex e ds _ ha)
  | .tuple ds, _, h => by
    cases h with
    | tup hs ha => exact .tup (ex_t e hs) (dps_ex e ds _ ha)
  | .dict _, _, h => by cases h
theorem dps_ex {K : PySem.W.Frag} {H H1 : Hp} (e : Ex H H1) : ∀ (ds : List PyData) (vs : List V), DpAll K H vs ds → DpAll K H1 vs ds
  | [], _, h => by cases h; exact .nil
  | d :: ds, _, h => by
    cases h with
    | cons h1 h2 => exact .cons (dp_ex e d _ h1) (dps_ex e ds _ h2)
end
def swPy (s : Int × Int) : PyData := .tuple [.int s.1, .int s.2]
def toldPy : Option (List (Int × Int)) → PyData
  | none => .none
  | some ss => .tuple (ss.map swPy)
theorem sws_dp {K : PySem.W.Frag} {H : Hp} : ∀ {as : List Addr} {ss : List (Int × Int)}, SwsAt H as ss → DpAll K H (as.map V.ref) (ss.map swPy)
  | _, _, .nil => .nil
  | _, _, .cons f t => .cons (.tup (st_of f) (.cons (.int _) (.cons (.int _) .nil))) (sws_dp t)
theorem told_dp {K : PySem.W.Frag} {H : Hp} {v : V} {mv : List Int} {many : Int} (h : Told H v mv many) : Dp K H v (toldPy (rowOf mv many)) := by
  rcases h with ⟨h1, rfl⟩ | ⟨p, ss, h1, rfl, as, h2, h3⟩
  · rw [h1]
    exact .non
  · rw [h1]
    exact .tup (st_of h2) (sws_dp h3)
/-! ### expressions that make told data -/
def EvP (K : PySem.W.Frag) (te : TE) (σ : L2.St) (H : Hp) (d : PyData) : Prop := ∀ H1, Ex H H1 → ∀ Q : VK, (∀ v H2, Ex H1 H2 → Dp K H2 v d → Q v H2) → te σ H1 Q
def EvPs (K : PySem.W.Frag) (ta : TA) (σ : L2.St) (H : Hp) (ds : List PyData) : Prop := ∀ H1, Ex H H1 → ∀ Q : List V → Hp → Prop, (∀ vs H2, Ex H1 H2 → DpAll K H2 vs ds → vs.length = ds.length → Q vs H2) → ta σ H1 Q
section
variable {K : PySem.W.Frag} {σ : L2.St} {H : Hp} {te t1 t2 : TE} {tr : TA} {d : PyData} {ds : List PyData}
theorem ep_non : EvP K (tC .non) σ H .none := fun H1 e Q q => q .non H1 (Ex.refl H1) .non
theorem ep_int {i : Int} : EvP K (tC (.int i)) σ H (.int i) := fun H1 e Q q => q (.int i) H1 (Ex.refl H1) (.int i)
theorem ep_nil : EvPs K tNil σ H [] := fun H1 e Q q => q [] H1 (Ex.refl H1) .nil rfl
theorem ep_cons (h : EvP K te σ H d) (hr : EvPs K tr σ H ds) : EvPs K (tCons te tr) σ H (d :: ds) := fun H1 e Q q =>
  h H1 e _ fun v H2 e2 hv => hr H2 (e.trans e2) _ fun vs H3 e3 hvs hl => q (v :: vs) H3 (e2.trans e3) (.cons (dp_ex e3 _ _ hv) hvs) (by rw [List.length_cons, List.length_cons, hl])
theorem ep_tup (h : EvPs K tr σ H ds) (hz : ds.length ≤ 1000) : EvP K (tTup tr) σ H (.tuple ds) := fun H1 e Q q =>
  h H1 e _ fun vs H2 e2 hvs hl => ⟨sz_of (by omega), fun p hp => q (.ref p) _ (e2.trans (Ex.new hp)) (.tup (st_of upd_same) (dps_ex (Ex.new hp) _ _ hvs))⟩
theorem ep_lst (h : EvPs K tr σ H ds) (hz : ds.length ≤ 1000) : EvP K (tLst tr) σ H (.list ds) := fun H1 e Q q =>
  h H1 e _ fun vs H2 e2 hvs hl => ⟨sz_of (by omega), fun p hp => q (.ref p) _ (e2.trans (Ex.new hp)) (.lst (sq_of upd_same) (dps_ex (Ex.new hp) _ _ hvs))⟩
theorem perm_of {l : List Int} {n : Nat} (h : l.isPerm (rng n) = true) : l.Perm (rng n) := List.isPerm_iff.mp h
/-- row_of of a written move -/
theorem told_call {n : Nat} {mv : List Int} {many : Int} (hp : mv.isPerm (rng n) = true) (hn : 0 < n ∧ n ≤ 24) (hk : 0 ≤ many ∧ many ≤ 200) (h : EvA tr σ H (mv.map V.int)) (hz : (mv.map V.int).length ≤ 100000) :
    ∀ H1, Ex H H1 → ∀ Q : VK, (∀ v H2, Ex H1 H2 → Told H2 v mv many → Q v H2) → tCall spRowOf [] E0 (tCons (tTup tr) (tCons (tC (.int many)) tNil)) σ H1 Q := fun H1 e Q q => by
  show tTup tr σ H1 fun x H2 => spRowOf [x, .int many] H2 Q E0
  exact eu_tup h hz H1 e _ fun p H2 _ e2 h2 => ⟨n, p, mv, many, rfl, h2, perm_of hp, hn.1, hn.2, hk.1, hk.2, told_of fun told H3 e3 ht => q told H3 (e2.trans e3) ht⟩
theorem ep_told {n : Nat} {mv : List Int} {many : Int} (hp : mv.isPerm (rng n) = true) (hn : 0 < n ∧ n ≤ 24) (hk : 0 ≤ many ∧ many ≤ 200) (h : EvA tr σ H (mv.map V.int)) (hz : (mv.map V.int).length ≤ 100000) :
    EvP K (tCall spRowOf [] E0 (tCons (tTup tr) (tCons (tC (.int many)) tNil))) σ H (toldPy (rowOf mv many)) := fun H1 e Q q =>
  told_call hp hn hk h hz H1 e Q fun v H2 e2 ht => q v H2 e2 (told_dp ht)
theorem s_asgP {D : Ends} {tz : TS} {i : Nat} (h : EvP K te σ H d) (g : ∀ v H1, Ex H H1 → Dp K H1 v d → tz D (σ.set i (some v)) H1) : tSeq (tAsg te (gName i)) tz D σ H := h H (Ex.refl H) _ fun v H1 e1 hv => g v H1 e1 hv
/-- a != [..] -/
theorem et_neP {v : V} {i : Nat} {e : PyData} {b : Bool} (hs : σ[i]? = some (some v)) (hd : Dp K H v d) (h : EvP K te σ H e) (s1 : SeqAt.shaped d = true) (s2 : SeqAt.shaped e = true) (hb : (!PyData.eqv d e) = b) : EvT (tTest (tOp (rNeD K) (tVar i) te)) σ H b := fun H1 e1 Q q =>
  ⟨v, hs, h H1 e1 _ fun u H2 e2 hu => ⟨d, e, dp_ex (e1.trans e2) _ _ hd, hu, s1, s2, b, by rw [hb], q H2 e2⟩⟩
/-- is_row_of of a written move -/
theorem ev_isRow {n : Nat} {mv : List Int} {ss : List (Int × Int)} (hp : mv.isPerm (rng n) = true) (hn : 0 < n ∧ n ≤ 24) (h : EvA tr σ H (mv.map V.int)) (hz : (mv.map V.int).length ≤ 100000) (h2 : EvR te σ H ss) (hss : ss.length ≤ 1000) :
    Ev (tCall spIsRowOf [] E0 (tCons (tTup tr) (tCons te tNil))) σ H (.bl (judge n mv (.rw (ss.map swIt)))) := fun H1 e Q q => by
  show tTup tr σ H1 fun x H2 => te σ H2 fun y H3 => spIsRowOf [x, y] H3 Q E0
  exact eu_tup h hz H1 e _ fun p H2 _ e2 hp2 => h2 H2 (e.trans e2) _ fun r H3 _ e3 hr => ⟨n, p, mv, .ref r, .rw (ss.map swIt), rfl, e3 _ _ hp2, perm_of hp, hn.1, hn.2, hr.vl hss, fun H4 e4 => q H4 ((e2.trans e3).trans e4)⟩
def EvSw (te : TE) (σ : L2.St) (H : Hp) (s : Int × Int) : Prop := ∀ H1, Ex H H1 → ∀ Q : VK, (∀ p H2, Ex H1 H2 → SwAt H2 p s → Q (.ref p) H2) → te σ H1 Q
theorem ew_sw {a b : Int} : EvSw (tTup (tCons (tC (.int a)) (tCons (tC (.int b)) tNil))) σ H (a, b) := fun H1 e Q q =>
  eu_tup (ea_cons (ev_c (v := .int a)) (ea_cons (ev_c (v := .int b)) ea_nil)) (show 2 ≤ 100000 by decide) H1 e Q fun p H2 _ e2 h2 => q p H2 e2 h2
theorem er_two {s1 s2 : Int × Int} (h1 : EvSw t1 σ H s1) (h2 : EvSw t2 σ H s2) : EvR (tTup (tCons t1 (tCons t2 tNil))) σ H [s1, s2] := fun H1 e Q q =>
  h1 H1 e _ fun p1 H2 e2 g1 => h2 H2 (e.trans e2) _ fun p2 H3 e3 g2 => ⟨show 2 ≤ sizeLine by decide, fun p hp => q p _ (fresh_back (e2.trans e3) hp) ((e2.trans e3).trans (Ex.new hp))
    ⟨[p1, p2], upd_same, .cons (TEx.of (e3.trans (Ex.new hp)) _ _ g1) (.cons (TEx.of (Ex.new hp) _ _ g2) .nil)⟩⟩
theorem er_mul {s1 : Int × Int} {k : Int} (h1 : EvSw t1 σ H s1) (hk : 2 ≤ k ∧ k ≤ 1000) : EvR (tOp (rRepT K) (tTup (tCons t1 tNil)) (tC (.int k))) σ H (List.replicate k.toNat s1) := fun H1 e Q q =>
  h1 H1 e _ fun p1 H2 e2 g1 => ⟨show 1 ≤ sizeLine by decide, fun p hp => ⟨p, k, [.ref p1], rfl, rfl, st_of upd_same, List.cons_ne_nil _ _, hk.1, hk.2, show 1 ≤ 1000 by decide, fun r hr => by
    have e3 := Ex.new (o := .tup [.ref p1]) hp
    have e4 := Ex.new (o := .tup (List.replicate k.toNat [V.ref p1]).flatten) hr
    refine q r _ (fresh_back (e2.trans e3) hr) ((e2.trans e3).trans e4) ⟨List.replicate k.toNat p1, by rw [upd_same, flat_rep], ?_⟩
    exact sws_rep (TEx.of (e3.trans e4) _ _ g1) _⟩⟩
def rMin2 : List V → Hp → VK → Prop := fun xs H Q => ∃ i j, xs = [.int i, .int j] ∧ Q (.int (if j < i then j else i)) H
theorem ev_min2 {ta tb : TE} {i j : Int} (ha : Ev ta σ H (.int i)) (hb : Ev tb σ H (.int j)) : Ev (tCB rMin2 (tCons ta (tCons tb tNil))) σ H (.int (if j < i then j else i)) := fun H1 e Q q =>
  ha H1 e _ fun H2 e2 => hb H2 (e.trans e2) _ fun H3 e3 =>
    ⟨i, j, rfl, q H3 (e2.trans e3)⟩
end
section
variable {P : Program} {w : World} {base : Heap} {K : PySem.W.Frag} {mg : Str → Option Value}
abbrev sLaw : Stmt := topS 39
theorem scLaw : FnScope ["_law_script", "_law_spot", "_law_dice_here", "_law_told"] ["_law_script"] (defScope sLaw) := ⟨rfl, rfl, rfl, by decide +kernel, rfl, by decide +kernel, by decide +kernel⟩
def spLaw (K : PySem.W.Frag) : Sp := fun vs H Q _ => ∃ (sc : Addr) (ns : List Int), vs = [.ref sc] ∧ SqL K H sc (ns.map V.int) ∧ ∀ H', Q (.bl true) H'
theorem ex_dst {H H1 H2 : Hp} {d : Addr} (hd : H d = none) (e : Ex H H1) (st : DSt d H1 H2) : Ex H H2 := fun a o h => st.keep a o (ne_of_none h hd) (e a o h)
theorem lawBody (f : Addr) (cdv : Value) (A : Around) (outer : List Env) (s : Shared) (H : Hp) (vs : List V) (Q : VK) (E : XK) (ml : mg "len" = none) (mx : mg "max" = none) (mn : mg "min" = none) (mr : mg "range" = none)
    (DI : Has P w K mg base 1 "_law_dice" ["_law_script", "_law_spot"] (spDice K)) (RT : Has P w K mg base 7 "_law_right" ["_law_dice_here"] spRight) (RO : Has P w K mg base 6 "row_of" ["move", "many"] spRowOf) (IR : Has P w K mg base 6 "is_row_of" ["move", "value"] spIsRowOf)
    (hr : Room 7 (A.deeper (envOfC "law" (defScope sLaw) s.heap.objs.size f cdv))) (h : spLaw K vs H Q E) :
    ∃ t, PSs (cxOf CX0 P w K mg base ["_law_script", "_law_spot", "_law_dice_here", "_law_told"] "law" (defScope sLaw) f cdv A outer s H E).nox (defBody sLaw) t ∧
      t { nx := fun _ H' => Q .non H', rt := Q } (start ["_law_script", "_law_spot", "_law_dice_here", "_law_told"] vs) H := by
  obtain ⟨sc, ns, rfl, hs, q⟩ := h
  refine ⟨_, pss_cons (ps_for PassesOwn.never rfl (pi_range1 (by rfl) mr (pa_cons (pe_callB (call_max2 rfl) (by rfl) mx (by decide +kernel) (pa_cons pe_int (pa_cons (pe_callB (call_min2 rfl) (by rfl) mn (by decide +kernel) (pa_cons pe_int (pa_cons (pe_callB call_len_seq (by rfl) ml PySem.boot_len (pa_cons (pv 0) pa_nil)) pa_nil))) pa_nil))) pa_nil)) (pg_name (i := 1) scLaw.nd rfl (.inl rfl))
      (pss_cons (ps_set (i := 2) scLaw.nd rfl (.inl rfl) (pe_has DI (hr.mono (by decide)) (by rfl) (pa_cons (pv 0) (pa_cons (pv 1) pa_nil))))
      (pss_one (ps_if (PW.pt (pw_or (pt_not (pt_val (pe_has RT hr (by rfl) (pa_cons (pv 2) pa_nil)))) (pw_or (pt_not (pt_val (pe_has RT hr (by rfl) (pa_cons (pv 2) pa_nil)))) (pw_or1 (pt_not (pt_val (pe_has RT hr (by rfl) (pa_cons (pv 2) pa_nil)))))))) (pss_one (ps_ret pe_bl)) pss_nil))))
    (pss_cons (ps_set (i := 3) scLaw.nd rfl (.inl rfl) (pe_lst
      (pa_cons (pe_has RO (hr.mono (by decide)) (by rfl) (pa_cons (pe_tup (pa_cons pe_int (pa_cons pe_int (pa_cons pe_int (pa_cons pe_int pa_nil))))) (pa_cons pe_int pa_nil)))
      (pa_cons (pe_has RO (hr.mono (by decide)) (by rfl) (pa_cons (pe_tup (pa_cons pe_int pa_nil)) (pa_cons pe_int pa_nil)))
      (pa_cons (pe_has RO (hr.mono (by decide)) (by rfl) (pa_cons (pe_tup (pa_cons pe_int pa_nil)) (pa_cons pe_int pa_nil)))
      (pa_cons (pe_has RO (hr.mono (by decide)) (by rfl) (pa_cons (pe_tup (pa_cons pe_int (pa_cons pe_int pa_nil))) (pa_cons pe_int pa_nil)))
      (pa_cons (pe_has RO (hr.mono (by decide)) (by rfl) (pa_cons (pe_tup (pa_cons pe_int (pa_cons pe_int pa_nil))) (pa_cons pe_int pa_nil))) pa_nil)))))))
    (pss_cons (ps_if (pt_cmpR (op_neD hr.units) (pv 3) (pe_lst (pa_cons pe_non (pa_cons (pe_tup pa_nil) (pa_cons pe_non
        (pa_cons (pe_tup (pa_cons (pe_tup (pa_cons pe_int (pa_cons pe_int pa_nil))) (pa_cons (pe_tup (pa_cons pe_int (pa_cons pe_int pa_nil))) (pa_cons (pe_tup (pa_cons pe_int (pa_cons pe_int pa_nil))) pa_nil)))) (pa_cons pe_non pa_nil)))))) (nomark _)) (pss_one (ps_ret pe_bl)) pss_nil)
    (pss_one (ps_ret (pe_and (pe_has IR (hr.mono (by decide)) (by rfl) (pa_cons (pe_tup (pa_cons pe_int (pa_cons pe_int (pa_cons pe_int (pa_cons pe_int pa_nil))))) (pa_cons (pe_tup (pa_cons (pe_tup (pa_cons pe_int (pa_cons pe_int pa_nil))) (pa_cons (pe_tup (pa_cons pe_int (pa_cons pe_int pa_nil))) pa_nil))) pa_nil)))
      (pe_and (pe_not (pe_has IR (hr.mono (by decide)) (by rfl) (pa_cons (pe_tup (pa_cons pe_int (pa_cons pe_int pa_nil))) (pa_cons (pe_op op_repT (pe_tup (pa_cons (pe_tup (pa_cons pe_int (pa_cons pe_int pa_nil))) pa_nil)) pe_int) pa_nil))))
      (pe_one (pe_cmpR op_eq (pe_callB call_len_seq (by rfl) ml PySem.boot_len (pa_cons (pe_has RO (hr.mono (by decide)) (by rfl) (pa_cons (pe_tup (pa_cons pe_int (pa_cons pe_int pa_nil))) (pa_cons pe_int pa_nil))) pa_nil)) pe_int (nomark _))))))))), ?_⟩
  -- the loop over the spots
  refine q_forR1 (n := if (if (ns.length : Int) < 3 then (ns.length : Int) else 3) > 1 then (if (ns.length : Int) < 3 then (ns.length : Int) else 3) else 1)
    (ea_cons (ev_max2 (ev_c (v := .int 1)) (ev_min2 (ev_c (v := .int 3)) (ev_is (ev_len (ev_var (v := .ref sc) rfl) hs) (by rw [List.length_map])))) ea_nil) (by split <;> split <;> omega)
    (fun i σ' H' => ∃ y1 y2, σ' = [some (.ref sc), y1, y2, none] ∧ Ex H H') (fun H1 e1 => ⟨none, none, rfl, e1⟩) ?_ ?_
  · rintro i σ' H' hi ⟨y1, y2, rfl, e'⟩
    have hi3 : i ≤ 1000 := by
      have : (if (if (ns.length : Int) < 3 then (ns.length : Int) else 3) > 1 then (if (ns.length : Int) < 3 then (ns.length : Int) else 3) else 1) ≤ 3 := by split <;> split <;> omega
      omega
    refine ⟨.ref sc, rfl, .int (i : Int), rfl, sc, ns, i, rfl, ex_l e' hs, hi3, fun d H2 nd e2 hd => ?_⟩
    have nd0 : H d = none := fresh_back e' nd
    have e02 := e'.trans e2
    refine ⟨.ref d, rfl, d, rfl, hd, fun H3 st3 => ⟨true, rfl, ?_⟩⟩
    refine iteF ?_
    refine ⟨.ref d, rfl, d, rfl, st3.dice, fun H4 st4 => ⟨true, rfl, ?_⟩⟩
    refine iteF ?_
    refine ⟨.ref d, rfl, d, rfl, st4.dice, fun H5 st5 => ⟨true, rfl, ?_⟩⟩
    refine iteF ?_
    exact ⟨_, _, rfl, ex_dst nd0 e02 ((st3.trans st4).trans st5)⟩
  rintro σ' H1 ⟨y1, y2, rfl, e1⟩
  -- told = [..]
  refine s_asgP (K := K) (ep_lst (ep_cons (ep_told (n := 4) (mv := [1, 2, 0, 3]) (many := 3) (by decide) (by decide) (by decide) (ea_cons ev_c (ea_cons ev_c (ea_cons ev_c (ea_cons ev_c ea_nil)))) (by decide)) (ep_cons (ep_told (n := 1) (mv := [0]) (many := 0) (by decide) (by decide) (by decide) (ea_cons ev_c ea_nil) (by decide))
    (ep_cons (ep_told (n := 1) (mv := [0]) (many := 2) (by decide) (by decide) (by decide) (ea_cons ev_c ea_nil) (by decide)) (ep_cons (ep_told (n := 2) (mv := [1, 0]) (many := 3) (by decide) (by decide) (by decide) (ea_cons ev_c (ea_cons ev_c ea_nil)) (by decide))
    (ep_cons (ep_told (n := 2) (mv := [0, 1]) (many := 1) (by decide) (by decide) (by decide) (ea_cons ev_c (ea_cons ev_c ea_nil)) (by decide)) ep_nil))))) (by decide)) fun told H2 e2 ht => ?_
  -- if told != [..]
  refine q_when (b := false) (et_neP (v := told) rfl ht (ep_lst (ep_cons ep_non (ep_cons (ep_tup ep_nil (by decide)) (ep_cons ep_non (ep_cons (ep_tup (ep_cons (ep_tup (ep_cons ep_int (ep_cons ep_int ep_nil)) (by decide)) (ep_cons (ep_tup (ep_cons ep_int (ep_cons ep_int ep_nil)) (by decide))
    (ep_cons (ep_tup (ep_cons ep_int (ep_cons ep_int ep_nil)) (by decide)) ep_nil))) (by decide)) (ep_cons ep_non ep_nil))))) (by decide)) (by decide +kernel) (by decide +kernel) (by decide +kernel)) (fun h => nomatch h) fun _ H3 e3 => ?_
  -- the last row
  refine s_ret (ev_is (ev_andV (ev_isRow (n := 4) (mv := [1, 2, 0, 3]) (by decide) (by decide) (ea_cons ev_c (ea_cons ev_c (ea_cons ev_c (ea_cons ev_c ea_nil)))) (by decide) (er_two ew_sw ew_sw) (by decide))
    (fun _ => ev_andV (ev_notV (ev_isRow (n := 2) (mv := [0, 1]) (by decide) (by decide) (ea_cons ev_c (ea_cons ev_c ea_nil)) (by decide) (er_mul ew_sw (by decide)) (by decide)))
      (fun _ => ev_op (x := .int 200) ?_ (ev_c (v := .int 200)) (rv_eq rfl)))) (w := .bl true) ?_) (fun H4 e4 => q H4)
  · refine fun H4 e4 Q4 q4 => told_call (n := 2) (mv := [0, 1]) (many := 200) (by decide) (by decide) (by decide) (ea_cons ev_c (ea_cons ev_c ea_nil)) (by decide) H4 e4 _ fun v H5 e5 hv => ?_
    have hmv := Mv.of_perm (perm_of (l := [0, 1]) (n := 2) (by decide))
    rcases hv with ⟨h1, _⟩ | ⟨p, ss, h1, rfl, as, h2, h3⟩
    · have : (rowOf [0, 1] 200).isSome = true := by decide +kernel
      rw [h1] at this
      cases this
    · obtain ⟨g1, _, _⟩ := rowOf_some (by decide) hmv (by decide) h1
      refine ⟨p, as.map V.ref, rfl, .inr (st_of h2), ?_⟩
      have e : (((as.map V.ref).length : Nat) : Int) = 200 := by
        rw [List.length_map, Paired.length h3]
        exact g1
      rw [e]
      exact q4 H5 e5
  · decide +kernel
end
end K17
/-! the end: the defs gathered -/
namespace K17
open PySem PySem.Spec PyProof.Rows L2 Evl
theorem defAt_mk {K : PySem.W.Frag} {h : Heap} {mg : Str → Option Value} (X : K.In h) (G : h.Ns mainGlobals mg) {x : Str} {st : Stmt} {f : Addr} {od an : Option Addr} {sl : Array (Option Value)} {oc kV dc pm cd ct : Value}
    (a : PySem.W.nsIn K mainGlobals x = some (some (.ref f))) (l : K.lookup f = some ⟨oc, od, .func (PySem.W.fnOf x x (defArgs st) (defBody st) (defScope st) .none kV dc pm an cd ct), sl⟩) (c : PySem.W.codeIn K cd x = true) (k : PySem.W.keepIn K (.ref f) = true) : DefAt K mg x st :=
  ⟨f, _, fun_mk l c k, PySem.W.mg_of X G a⟩
theorem int_mk {K : PySem.W.Frag} {h : Heap} {mg : Str → Option Value} (X : K.In h) (G : h.Ns mainGlobals mg) {x : Str} {i j : Int} {t : Tok} (a : PySem.W.nsIn K mainGlobals x = some (some (.int j t))) (e : i = j) : ∃ t, mg x = some (.int i t) :=
  ⟨t, by rw [e]; exact PySem.W.mg_of X G a⟩
/-- the names of the top that the walk leans on -/
structure Top (K : PySem.W.Frag) (mg : Str → Option Value) : Prop where
  dWhole : DefAt K mg "is_whole" (topS 6)
  dInteger : DefAt K mg "is_integer" (topS 7)
  dWithin : DefAt K mg "is_within" (topS 8)
  dReqWithin : DefAt K mg "require_within" (topS 9)
  dIdle : DefAt K mg "idle_in" (topS 13)
  dSwapped : DefAt K mg "swapped_in" (topS 14)
  dProduct : DefAt K mg "product_in" (topS 15)
  dStrict : DefAt K mg "strict_in" (topS 16)
  dMoveIn : DefAt K mg "is_move_in" (topS 17)
  dMove : DefAt K mg "is_move" (topS 18)
  dSwapIn : DefAt K mg "is_swap_in" (topS 19)
  dRowIn : DefAt K mg "is_row_in" (topS 20)
  dReqMove : DefAt K mg "require_move" (topS 21)
  dRowOf : DefAt K mg "row_of" (topS 22)
  dIsRowOf : DefAt K mg "is_row_of" (topS 23)
  dDice : DefAt K mg "_law_dice" (topS 25)
  dRoll : DefAt K mg "_law_roll" (topS 26)
  dPick : DefAt K mg "_law_pick" (topS 27)
  dShuffled : DefAt K mg "_law_shuffled" (topS 28)
  dLswapped : DefAt K mg "_law_swapped" (topS 29)
  dLproduct : DefAt K mg "_law_row_product" (topS 30)
  dMoveDrawn : DefAt K mg "_law_move_drawn" (topS 31)
  dSwapDrawn : DefAt K mg "_law_swap_drawn" (topS 32)
  dRowDrawn : DefAt K mg "_law_row_drawn" (topS 33)
  dCycles : DefAt K mg "_law_mv_cycles" (topS 34)
  dMvIsRow : DefAt K mg "_law_mv_is_row" (topS 35)
  dCanBe : DefAt K mg "_law_can_be" (topS 36)
  dValues : DefAt K mg "_law_values" (topS 37)
  dRight : DefAt K mg "_law_right" (topS 38)
  z_isinstance : mg "isinstance" = none
  z_int : mg "int" = none
  z_bool : mg "bool" = none
  z_tuple : mg "tuple" = none
  z_range : mg "range" = none
  z_len : mg "len" = none
  z_all : mg "all" = none
  z_sorted : mg "sorted" = none
  z_list : mg "list" = none
  z_max : mg "max" = none
  z_min : mg "min" = none
  z_abs : mg "abs" = none
  z_repr : mg "repr" = none
  gB : ∃ t, mg "BOUND" = some (.int big t)
  gP : ∃ t, mg "MOST_PLACES" = some (.int 24 t)
  gR : ∃ t, mg "MOST_ROW" = some (.int 200 t)
theorem ok_law {P : Program} {w : World} {K : PySem.W.Frag} {mg : Str → Option Value} {base : Heap} {f : Addr} {fd : FuncData} (F : Fun K "law" "law" sLaw f fd) (T : Top K mg) : FnOk P w K mg base CX0 8 f fd ["_law_script"] (spLaw K) := by
  have hWhole : Has P w K mg base 1 _ _ _ := ok_whole T.dWhole T.z_isinstance T.z_int T.z_bool
  have hInteger : Has P w K mg base 2 _ _ _ := ok_integer T.dInteger hWhole T.gB
  have hWithin : Has P w K mg base 3 _ _ _ := ok_within T.dWithin hInteger
  have hReqWithin : Has P w K mg base 4 _ _ _ := ok_reqWithin T.dReqWithin hWithin
  have hIdle : Has P w K mg base 1 _ _ _ := ok_idle T.dIdle T.z_tuple T.z_range
  have hSwapped : Has P w K mg base 1 _ _ _ := ok_swapped T.dSwapped T.z_tuple
  have hProduct : Has P w K mg base 2 _ _ _ := ok_product T.dProduct hIdle hSwapped
  have hStrict : Has P w K mg base 2 _ _ _ := ok_strict T.dStrict T.z_len T.z_range T.z_tuple hSwapped
  have hMoveIn : Has P w K mg base 3 _ _ _ := ok_moveIn T.dMoveIn T.z_isinstance T.z_tuple T.z_len T.z_all T.z_sorted T.z_list T.z_range hInteger
  have hMove : Has P w K mg base 4 _ _ _ := ok_move T.dMove T.z_isinstance T.z_tuple T.z_len T.gP hMoveIn
  have hReqMove : Has P w K mg base 5 _ _ _ := ok_reqMove T.dReqMove hMove
  have hSwapIn : Has P w K mg base 3 _ _ _ := ok_swapIn T.dSwapIn T.z_isinstance T.z_tuple T.z_len T.z_all hInteger
  have hRowIn : Has P w K mg base 4 _ _ _ := ok_rowIn T.dRowIn T.z_isinstance T.z_tuple T.z_len T.z_all T.gR hSwapIn
  have hRowOf : Has P w K mg base 6 _ _ _ := ok_rowOf T.dRowOf T.z_len T.gR hReqMove hReqWithin hStrict
  have hIsRowOf : Has P w K mg base 6 _ _ _ := ok_isRowOf T.dIsRowOf T.z_len hReqMove hRowIn hProduct
  have hDice : Has P w K mg base 1 _ _ _ := ok_dice T.dDice T.z_len T.z_int T.z_max T.z_abs
  have hRoll : Has P w K mg base 1 _ _ _ := ok_roll T.dRoll T.z_int
  have hPick : Has P w K mg base 2 _ _ _ := ok_pick T.dPick T.z_len hRoll
  have hShuffled : Has P w K mg base 2 _ _ _ := ok_shuffled T.dShuffled T.z_len T.z_list T.z_range hRoll
  have hLswapped : Has P w K mg base 1 _ _ _ := ok_lswapped T.dLswapped T.z_tuple
  have hLproduct : Has P w K mg base 2 _ _ _ := ok_lproduct T.dLproduct T.z_tuple T.z_range hLswapped
  have hMoveDrawn : Has P w K mg base 3 _ _ _ := ok_moveDrawn T.dMoveDrawn T.z_tuple T.z_list T.z_range hShuffled
  have hSwapDrawn : Has P w K mg base 3 _ _ _ := ok_swapDrawn T.dSwapDrawn T.z_sorted T.z_list T.z_range hShuffled
  have hRowDrawn : Has P w K mg base 4 _ _ _ := ok_rowDrawn T.dRowDrawn T.z_tuple T.z_range hSwapDrawn
  have hCycles : Has P w K mg base 1 _ _ _ := ok_cycles T.dCycles T.z_range T.z_len T.z_tuple
  have hMvIsRow : Has P w K mg base 1 _ _ _ := ok_mvIsRow T.dMvIsRow T.z_isinstance T.z_tuple T.z_len T.z_bool T.z_int
  have hCanBe : Has P w K mg base 2 _ _ _ := ok_canBe T.dCanBe T.z_len hCycles
  have hValues : Has P w K mg base 4 _ _ _ := ok_values T.dValues T.z_len T.z_list T.z_range hSwapDrawn hRoll
  have hRight : Has P w K mg base 7 _ _ _ := ok_right T.dRight T.z_len T.z_repr hRoll hMoveDrawn hPick hRowOf hCanBe hMvIsRow hLproduct hIsRowOf hRowDrawn hValues
  refine F.ok scLaw (fun vs H Q E h => ?_) (fun cdv A outer s H vs Q E hr h => lawBody f cdv A outer s H vs Q E T.z_len T.z_max T.z_min T.z_range hDice hRight hRowOf hIsRowOf hr h)
  obtain ⟨_, _, rfl, _⟩ := h
  rfl
theorem law_mk {P : Program} {w : World} {K : PySem.W.Frag} {h : Heap} {mg : Str → Option Value} {fa f : Addr} (X : K.In h) (G : h.Ns mainGlobals mg) (hfa : mg "law" = some (.ref fa)) {od an : Option Addr} {sl : Array (Option Value)} {oc kV dc pm cd ct : Value}
    (a : PySem.W.nsIn K mainGlobals "law" = some (some (.ref f))) (l : K.lookup f = some ⟨oc, od, .func (PySem.W.fnOf "law" "law" (defArgs sLaw) (defBody sLaw) (defScope sLaw) .none kV dc pm an cd ct), sl⟩) (c : PySem.W.codeIn K cd "law" = true) (k : PySem.W.keepIn K (.ref f) = true) (T : Top K mg) :
    ∃ fd : FuncData, (∀ (s : Shared) (v : Value), BindsTo s fd ⟨[v], []⟩ [("_law_script", v)]) ∧ ∀ base : Heap, K.In base → base.Ns mainGlobals mg → FnOk P w K mg base CX0 8 fa fd ["_law_script"] (spLaw K) := by
  have e := hfa.symm.trans (PySem.W.mg_of X G a)
  cases e
  exact ⟨_, fun s v => .of_eq rfl, fun base _ _ => ok_law (fun_mk l c k) T⟩
end K17
open PySem PyProof.Rows PySem.W
set_option maxHeartbeats 0 in
theorem PySem.Challenge.cw_swapsheets_k17_whole_rows_of_a_told_leng_holds : PySem.Challenge.rw_swapsheets_k17_whole_rows_of_a_told_leng.Holds := by
  w_on; o_law; k_head
  (case hw => w_witness2)
  k_fill
  refine L2.walk_of (l := PySem.Challenge.rw_swapsheets_k17_whole_rows_of_a_told_leng) (n := 63) (k := 8) (x := "_law_script") (CX := fun _ => L2.CX0) (sp := fun w => K17.spLaw _) rfl (by decide) rfl ⟨rfl, by decide, by decide⟩ (fun w h Y => PySem.W.kIn_of Y) ?F (fun _ _ a ns hl _ hS => ⟨a, ns, rfl, hS, fun _ => rfl⟩) (fun _ _ _ _ _ h => h)
  case F =>
    intro w mg fa h KX G hmg
    have dWhole : K17.DefAt (L2.KOf KX) mg "is_whole" (K17.topS 6) := by
      refine' K17.defAt_mk KX G ?a ?l ?c ?k
      (case a => k_is); (case l => k_is); (case c => k_is); (case k => k_is)
    have dInteger : K17.DefAt (L2.KOf KX) mg "is_integer" (K17.topS 7) := by
      refine' K17.defAt_mk KX G ?a ?l ?c ?k
      (case a => k_is); (case l => k_is); (case c => k_is); (case k => k_is)
    have dWithin : K17.DefAt (L2.KOf KX) mg "is_within" (K17.topS 8) := by
      refine' K17.defAt_mk KX G ?a ?l ?c ?k
      (case a => k_is); (case l => k_is); (case c => k_is); (case k => k_is)
    have dReqWithin : K17.DefAt (L2.KOf KX) mg "require_within" (K17.topS 9) := by
      refine' K17.defAt_mk KX G ?a ?l ?c ?k
      (case a => k_is); (case l => k_is); (case c => k_is); (case k => k_is)
    have dIdle : K17.DefAt (L2.KOf KX) mg "idle_in" (K17.topS 13) := by
      refine' K17.defAt_mk KX G ?a ?l ?c ?k
      (case a => k_is); (case l => k_is); (case c => k_is); (case k => k_is)
    have dSwapped : K17.DefAt (L2.KOf KX) mg "swapped_in" (K17.topS 14) := by
      refine' K17.defAt_mk KX G ?a ?l ?c ?k
      (case a => k_is); (case l => k_is); (case c => k_is); (case k => k_is)
    have dProduct : K17.DefAt (L2.KOf KX) mg "product_in" (K17.topS 15) := by
      refine' K17.defAt_mk KX G ?a ?l ?c ?k
      (case a => k_is); (case l => k_is); (case c => k_is); (case k => k_is)
    have dStrict : K17.DefAt (L2.KOf KX) mg "strict_in" (K17.topS 16) := by
      refine' K17.defAt_mk KX G ?a ?l ?c ?k
      (case a => k_is); (case l => k_is); (case c => k_is); (case k => k_is)
    have dMoveIn : K17.DefAt (L2.KOf KX) mg "is_move_in" (K17.topS 17) := by
      refine' K17.defAt_mk KX G ?a ?l ?c ?k
      (case a => k_is); (case l => k_is); (case c => k_is); (case k => k_is)
    have dMove : K17.DefAt (L2.KOf KX) mg "is_move" (K17.topS 18) := by
      refine' K17.defAt_mk KX G ?a ?l ?c ?k
      (case a => k_is); (case l => k_is); (case c => k_is); (case k => k_is)
    have dSwapIn : K17.DefAt (L2.KOf KX) mg "is_swap_in" (K17.topS 19) := by
      refine' K17.defAt_mk KX G ?a ?l ?c ?k
      (case a => k_is); (case l => k_is); (case c => k_is); (case k => k_is)
    have dRowIn : K17.DefAt (L2.KOf KX) mg "is_row_in" (K17.topS 20) := by
      refine' K17.defAt_mk KX G ?a ?l ?c ?k
      (case a => k_is); (case l => k_is); (case c => k_is); (case k => k_is)
    have dReqMove : K17.DefAt (L2.KOf KX) mg "require_move" (K17.topS 21) := by
      refine' K17.defAt_mk KX G ?a ?l ?c ?k
      (case a => k_is); (case l => k_is); (case c => k_is); (case k => k_is)
    have dRowOf : K17.DefAt (L2.KOf KX) mg "row_of" (K17.topS 22) := by
      refine' K17.defAt_mk KX G ?a ?l ?c ?k
      (case a => k_is); (case l => k_is); (case c => k_is); (case k => k_is)
    have dIsRowOf : K17.DefAt (L2.KOf KX) mg "is_row_of" (K17.topS 23) := by
      refine' K17.defAt_mk KX G ?a ?l ?c ?k
      (case a => k_is); (case l => k_is); (case c => k_is); (case k => k_is)
    have dDice : K17.DefAt (L2.KOf KX) mg "_law_dice" (K17.topS 25) := by
      refine' K17.defAt_mk KX G ?a ?l ?c ?k
      (case a => k_is); (case l => k_is); (case c => k_is); (case k => k_is)
    have dRoll : K17.DefAt (L2.KOf KX) mg "_law_roll" (K17.topS 26) := by
      refine' K17.defAt_mk KX G ?a ?l ?c ?k
      (case a => k_is); (case l => k_is); (case c => k_is); (case k => k_is)
    have dPick : K17.DefAt (L2.KOf KX) mg "_law_pick" (K17.topS 27) := by
      refine' K17.defAt_mk KX G ?a ?l ?c ?k
      (case a => k_is); (case l => k_is); (case c => k_is); (case k => k_is)
    have dShuffled : K17.DefAt (L2.KOf KX) mg "_law_shuffled" (K17.topS 28) := by
      refine' K17.defAt_mk KX G ?a ?l ?c ?k
      (case a => k_is); (case l => k_is); (case c => k_is); (case k => k_is)
    have dLswapped : K17.DefAt (L2.KOf KX) mg "_law_swapped" (K17.topS 29) := by
      refine' K17.defAt_mk KX G ?a ?l ?c ?k
      (case a => k_is); (case l => k_is); (case c => k_is); (case k => k_is)
    have dLproduct : K17.DefAt (L2.KOf KX) mg "_law_row_product" (K17.topS 30) := by
      refine' K17.defAt_mk KX G ?a ?l ?c ?k
      (case a => k_is); (case l => k_is); (case c => k_is); (case k => k_is)
    have dMoveDrawn : K17.DefAt (L2.KOf KX) mg "_law_move_drawn" (K17.topS 31) := by
      refine' K17.defAt_mk KX G ?a ?l ?c ?k
      (case a => k_is); (case l => k_is); (case c => k_is); (case k => k_is)
    have dSwapDrawn : K17.DefAt (L2.KOf KX) mg "_law_swap_drawn" (K17.topS 32) := by
      refine' K17.defAt_mk KX G ?a ?l ?c ?k
      (case a => k_is); (case l => k_is); (case c => k_is); (case k => k_is)
    have dRowDrawn : K17.DefAt (L2.KOf KX) mg "_law_row_drawn" (K17.topS 33) := by
      refine' K17.defAt_mk KX G ?a ?l ?c ?k
      (case a => k_is); (case l => k_is); (case c => k_is); (case k => k_is)
    have dCycles : K17.DefAt (L2.KOf KX) mg "_law_mv_cycles" (K17.topS 34) := by
      refine' K17.defAt_mk KX G ?a ?l ?c ?k
      (case a => k_is); (case l => k_is); (case c => k_is); (case k => k_is)
    have dMvIsRow : K17.DefAt (L2.KOf KX) mg "_law_mv_is_row" (K17.topS 35) := by
      refine' K17.defAt_mk KX G ?a ?l ?c ?k
      (case a => k_is); (case l => k_is); (case c => k_is); (case k => k_is)
    have dCanBe : K17.DefAt (L2.KOf KX) mg "_law_can_be" (K17.topS 36) := by
      refine' K17.defAt_mk KX G ?a ?l ?c ?k
      (case a => k_is); (case l => k_is); (case c => k_is); (case k => k_is)
    have dValues : K17.DefAt (L2.KOf KX) mg "_law_values" (K17.topS 37) := by
      refine' K17.defAt_mk KX G ?a ?l ?c ?k
      (case a => k_is); (case l => k_is); (case c => k_is); (case k => k_is)
    have dRight : K17.DefAt (L2.KOf KX) mg "_law_right" (K17.topS 38) := by
      refine' K17.defAt_mk KX G ?a ?l ?c ?k
      (case a => k_is); (case l => k_is); (case c => k_is); (case k => k_is)
    have z_isinstance : mg "isinstance" = none := PySem.W.mg_none_of KX G (by k_is)
    have z_int : mg "int" = none := PySem.W.mg_none_of KX G (by k_is)
    have z_bool : mg "bool" = none := PySem.W.mg_none_of KX G (by k_is)
    have z_tuple : mg "tuple" = none := PySem.W.mg_none_of KX G (by k_is)
    have z_range : mg "range" = none := PySem.W.mg_none_of KX G (by k_is)
    have z_len : mg "len" = none := PySem.W.mg_none_of KX G (by k_is)
    have z_all : mg "all" = none := PySem.W.mg_none_of KX G (by k_is)
    have z_sorted : mg "sorted" = none := PySem.W.mg_none_of KX G (by k_is)
    have z_list : mg "list" = none := PySem.W.mg_none_of KX G (by k_is)
    have z_max : mg "max" = none := PySem.W.mg_none_of KX G (by k_is)
    have z_min : mg "min" = none := PySem.W.mg_none_of KX G (by k_is)
    have z_abs : mg "abs" = none := PySem.W.mg_none_of KX G (by k_is)
    have z_repr : mg "repr" = none := PySem.W.mg_none_of KX G (by k_is)
    have gB : ∃ t, mg "BOUND" = some (.int K17.big t) := by
      refine' K17.int_mk KX G ?a ?e
      (case a => k_is); (case e => decide +kernel)
    have gP : ∃ t, mg "MOST_PLACES" = some (.int 24 t) := by
      refine' K17.int_mk KX G ?a ?e
      (case a => k_is); (case e => decide +kernel)
    have gR : ∃ t, mg "MOST_ROW" = some (.int 200 t) := by
      refine' K17.int_mk KX G ?a ?e
      (case a => k_is); (case e => decide +kernel)
    refine' K17.law_mk KX G hmg ?a ?l ?c ?k ⟨dWhole, dInteger, dWithin, dReqWithin, dIdle, dSwapped, dProduct, dStrict, dMoveIn, dMove, dSwapIn, dRowIn, dReqMove, dRowOf, dIsRowOf, dDice, dRoll, dPick, dShuffled, dLswapped, dLproduct, dMoveDrawn, dSwapDrawn, dRowDrawn, dCycles, dMvIsRow, dCanBe, dValues, dRight, z_isinstance, z_int, z_bool, z_tuple, z_range, z_len, z_all, z_sorted, z_list, z_max, z_min, z_abs, z_repr, gB, gP, gR⟩
    (case a => k_is); (case l => k_is); (case c => k_is); (case k => k_is)
