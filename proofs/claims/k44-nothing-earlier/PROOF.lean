import PyProof.Rows.All
import Wide.All
import OpenK.AllK
import Wide.FinOn
import HandS.ForMost
import HandS.Evl
import HandS.SortKw
import HandS.TupMul
import HandS.TupAny
import HandS.DictComp
import HandS.Zip
import KE.DatumOrd
import HandS.Walk
import PySem.Challenge.RW_everyblock_k44_whole_nothing_arrives_ear
set_option Elab.async false
set_option linter.all false
set_option maxRecDepth 100000
set_option maxHeartbeats 4000000
/-! K44Math: the plain mathematics of the law: nets as lists of lines between names, their order, arrivals, delays. -/
namespace K44
section
variable {N : Type} [DecidableEq N]

/-- the inputs of a node -/
def ins (ls : List (N × N)) (x : N) : List N := ls.filterMap fun l => if l.2 = x then some l.1 else none
theorem mem_ins {ls : List (N × N)} {x y : N} : y ∈ ins ls x ↔ (y, x) ∈ ls := by
  unfold ins
  rw [List.mem_filterMap]
  constructor
  · rintro ⟨⟨a, b⟩, h, e⟩
    by_cases hb : b = x
    · subst hb
      simp at e
      subst e
      exact h
    · simp [hb] at e
  · intro h
    exact ⟨(y, x), h, by simp⟩

/-- may the name be placed next? -/
def ready (ls : List (N × N)) (placed : List N) (x : N) : Bool := !decide (x ∈ placed) && (ins ls x).all fun y => decide (y ∈ placed)
theorem ready_iff {ls : List (N × N)} {placed : List N} {x : N} : ready ls placed x = true ↔ x ∉ placed ∧ ∀ y ∈ ins ls x, y ∈ placed := by
  unfold ready
  simp only [Bool.and_eq_true, Bool.not_eq_true', decide_eq_false_iff_not, List.all_eq_true, decide_eq_true_eq]
def step (names : List N) (ls : List (N × N)) (placed : List N) : List N :=
  match names.find? (ready ls placed) with
  | some x => placed ++ [x]
  | none => placed
def orderN (names : List N) (ls : List (N × N)) : Nat → List N
  | 0 => []
  | n + 1 => step names ls (orderN names ls n)
def order (names : List N) (ls : List (N × N)) : List N := orderN names ls names.length

/-- inputs first, no name twice -/
inductive Ord (ls : List (N × N)) : List N → Prop where
  | nil : Ord ls []
  | snoc {a : List N} {x : N} : Ord ls a → x ∉ a → (∀ y ∈ ins ls x, y ∈ a) → Ord ls (a ++ [x])
theorem ord_step {names : List N} {ls : List (N × N)} {placed : List N} (h : Ord ls placed) : Ord ls (step names ls placed) := by
  unfold step
  cases e : names.find? (ready ls placed) with
  | none => exact h
  | some x =>
    have r := ready_iff.mp (List.find?_some e)
    exact .snoc h r.1 r.2
theorem ord_orderN {names : List N} {ls : List (N × N)} : ∀ n, Ord ls (orderN names ls n)
  | 0 => .nil
  | n + 1 => ord_step (ord_orderN n)
theorem ord_order (names : List N) (ls : List (N × N)) : Ord ls (order names ls) := ord_orderN _
theorem sub_orderN {names : List N} {ls : List (N × N)} : ∀ n, ∀ x ∈ orderN names ls n, x ∈ names
  | 0, x, h => by simp [orderN] at h
  | n + 1, x, h => by
    have h : x ∈ step names ls (orderN names ls n) := h
    unfold step at h
    cases e : names.find? (ready ls (orderN names ls n)) with
    | none => rw [e] at h; exact sub_orderN n x h
    | some y =>
      rw [e] at h
      rcases List.mem_append.mp h with h | h
      · exact sub_orderN n x h
      · have : x = y := by simpa using h
        subst this
        exact List.mem_of_find?_eq_some e
theorem len_orderN {names : List N} {ls : List (N × N)} : ∀ n, (orderN names ls n).length ≤ n
  | 0 => Nat.le_refl _
  | n + 1 => by
    have ih := len_orderN (names := names) (ls := ls) n
    show (step names ls (orderN names ls n)).length ≤ n + 1
    unfold step
    split
    · rw [List.length_append]; simp; exact ih
    · omega
theorem Ord.nodup {ls : List (N × N)} {a : List N} (h : Ord ls a) : a.Nodup := by
  induction h with
  | nil => exact List.nodup_nil
  | snoc _ hx _ ih =>
    rw [List.nodup_append]
    refine ⟨ih, by simp, fun u hu v hv e => ?_⟩
    have hv : v = _ := List.mem_singleton.mp hv
    rw [e, hv] at hu
    exact hx hu
/-- by the place: what is ahead of a name holds its inputs, not itself -/
theorem Ord.at {ls : List (N × N)} {a : List N} (h : Ord ls a) : ∀ (i : Nat) (x : N), a[i]? = some x → x ∉ a.take i ∧ ∀ y ∈ ins ls x, y ∈ a.take i := by
  induction h with
  | nil => intro i x e; simp at e
  | @snoc a z _ hz hi ih =>
    intro i x e
    by_cases hlt : i < a.length
    · rw [List.getElem?_append_left hlt] at e
      rw [List.take_append_of_le_length (Nat.le_of_lt hlt)]
      exact ih i x e
    · have hi' : i = a.length := by
        have := (List.getElem?_eq_some_iff.mp e).1
        rw [List.length_append] at this
        simp at this
        omega
      subst hi'
      have : z = x := by simpa using e
      subst this
      rw [List.take_left']
      · exact ⟨hz, hi⟩
      · rfl

/-- a net whose lines rise -/
structure Rises (rk : N → Nat) (names : List N) (ls : List (N × N)) : Prop where
  fst : ∀ l ∈ ls, l.1 ∈ names
  snd : ∀ l ∈ ls, l.2 ∈ names
  up : ∀ l ∈ ls, rk l.1 < rk l.2
/-- the distinct names not yet placed, counted by places -/
def left (names placed : List N) : Nat := (names.filter fun x => !decide (x ∈ placed)).length
theorem least_left {rk : N → Nat} (names placed : List N) : ∀ b : Nat, (∃ x ∈ names, x ∉ placed ∧ rk x ≤ b) → ∃ x ∈ names, x ∉ placed ∧ ∀ y ∈ names, y ∉ placed → rk x ≤ rk y
  | 0, ⟨x, h1, h2, h3⟩ => ⟨x, h1, h2, fun y _ _ => by omega⟩
  | b + 1, ⟨x, h1, h2, h3⟩ => by
    by_cases h : ∃ x ∈ names, x ∉ placed ∧ rk x ≤ b
    · exact least_left names placed b h
    · refine ⟨x, h1, h2, fun y hy hn => ?_⟩
      have : ¬ rk y ≤ b := fun q => h ⟨y, hy, hn, q⟩
      omega
theorem some_ready {rk : N → Nat} {names : List N} {ls : List (N × N)} (R : Rises rk names ls) {placed : List N} (h : ∃ x ∈ names, x ∉ placed) : ∃ x ∈ names, ready ls placed x = true := by
  obtain ⟨x0, a, b⟩ := h
  obtain ⟨x, hx, hn, hm⟩ := least_left (rk := rk) names placed (rk x0) ⟨x0, a, b, Nat.le_refl _⟩
  refine ⟨x, hx, ready_iff.mpr ⟨hn, fun y hy => ?_⟩⟩
  have hl := mem_ins.mp hy
  refine Classical.byContradiction fun hc => ?_
  have h1 := R.up _ hl
  have h2 := hm y (R.fst _ hl) hc
  exact absurd h1 (Nat.not_lt.mpr h2)
theorem filter_lt {p q : N → Bool} : ∀ (l : List N), (∀ x ∈ l, q x = true → p x = true) → (∃ x ∈ l, p x = true ∧ q x = false) → (l.filter q).length < (l.filter p).length
  | [], _, ⟨x, h, _⟩ => by simp at h
  | a :: r, hs, ⟨x, hx, h1, h2⟩ => by
    have hle : ∀ l : List N, (∀ x ∈ l, q x = true → p x = true) → (l.filter q).length ≤ (l.filter p).length := by
      intro l
      induction l with
      | nil => intro _; exact Nat.le_refl _
      | cons b s ih =>
        intro hb
        have ih := ih fun y hy => hb y (List.mem_cons_of_mem _ hy)
        rw [List.filter_cons, List.filter_cons]
        by_cases hq : q b = true
        · rw [if_pos hq, if_pos (hb b List.mem_cons_self hq)]
          simp; exact ih
        · rw [if_neg hq]
          split
          · rw [List.length_cons]; omega
          · exact ih
    have hr := hle r fun y hy => hs y (List.mem_cons_of_mem _ hy)
    rcases List.mem_cons.mp hx with e | hx
    · subst e
      rw [List.filter_cons, List.filter_cons, if_pos h1, if_neg (by rw [h2]; decide), List.length_cons]
      omega
    · have ih := filter_lt r (fun y hy => hs y (List.mem_cons_of_mem _ hy)) ⟨x, hx, h1, h2⟩
      rw [List.filter_cons, List.filter_cons]
      by_cases hq : q a = true
      · rw [if_pos hq, if_pos (hs a List.mem_cons_self hq)]
        simp; exact ih
      · rw [if_neg hq]
        split
        · rw [List.length_cons]; omega
        · exact ih
theorem left_step {rk : N → Nat} {names : List N} {ls : List (N × N)} (R : Rises rk names ls) (placed : List N) (h : 0 < left names placed) : left names (step names ls placed) < left names placed := by
  have hex : ∃ x ∈ names, x ∉ placed := by
    unfold left at h
    obtain ⟨x, hx⟩ := List.exists_mem_of_length_pos h
    rw [List.mem_filter] at hx
    exact ⟨x, hx.1, by simpa using hx.2⟩
  obtain ⟨x, hx, hr⟩ := some_ready R hex
  unfold step
  cases e : names.find? (ready ls placed) with
  | none => exact absurd hr (by simpa using List.find?_eq_none.mp e x hx)
  | some y =>
    have hy := List.mem_of_find?_eq_some e
    have ry := ready_iff.mp (List.find?_some e)
    unfold left
    refine filter_lt names (fun z _ hz => ?_) ⟨y, hy, by simpa using ry.1, by simp⟩
    simp at hz ⊢
    exact hz.1
theorem left_orderN {rk : N → Nat} {names : List N} {ls : List (N × N)} (R : Rises rk names ls) : ∀ n, left names (orderN names ls n) ≤ names.length - n
  | 0 => by unfold left; exact Nat.le_trans (List.length_filter_le _ _) (by omega)
  | n + 1 => by
    have ih := left_orderN R n
    show left names (step names ls (orderN names ls n)) ≤ _
    by_cases h : 0 < left names (orderN names ls n)
    · have := left_step R _ h
      omega
    · have h0 : left names (orderN names ls n) = 0 := by omega
      have : left names (step names ls (orderN names ls n)) ≤ left names (orderN names ls n) := by
        unfold step
        split
        · rename_i x e
          unfold left
          -- fewer are left
          have hle : ∀ l : List N, (l.filter fun x_1 => !decide (x_1 ∈ orderN names ls n ++ [x])).length ≤ (l.filter fun x => !decide (x ∈ orderN names ls n)).length := by
            intro l
            induction l with
            | nil => exact Nat.le_refl _
            | cons b s ih =>
              rw [List.filter_cons, List.filter_cons]
              by_cases hb : b ∈ orderN names ls n
              · have h2 : b ∈ orderN names ls n ++ [x] := List.mem_append_left _ hb
                simp [hb, h2]
                simpa using ih
              · split
                · simp [hb]
                  simpa using ih
                · simp [hb]
                  have := ih
                  simp at this
                  omega
          exact hle names
        · exact Nat.le_refl _
      omega
/-- all are placed -/
theorem mem_order {rk : N → Nat} {names : List N} {ls : List (N × N)} (R : Rises rk names ls) {x : N} (h : x ∈ names) : x ∈ order names ls := by
  have h0 := left_orderN R names.length
  have h1 : left names (orderN names ls names.length) = 0 := by omega
  refine Classical.byContradiction fun hc => ?_
  unfold left at h1
  have h2 := List.length_eq_zero_iff.mp h1
  have : x ∈ names.filter fun y => !decide (y ∈ orderN names ls names.length) := List.mem_filter.mpr ⟨h, by simpa using (show ¬ x ∈ orderN names ls names.length from hc)⟩
  rw [h2] at this
  simp at this

/-! ### the greatest of a list, 0 if there is none -/
def maxD : List Int → Int
  | [] => 0
  | [x] => x
  | x :: y :: r => max x (maxD (y :: r))
theorem le_maxD : ∀ {l : List Int} {x : Int}, x ∈ l → x ≤ maxD l
  | [a], x, h => by simp at h; subst h; exact Int.le_refl _
  | a :: b :: r, x, h => by
    show x ≤ max a (maxD (b :: r))
    rcases List.mem_cons.mp h with e | h
    · subst e; omega
    · have := le_maxD h
      omega
theorem maxD_mem : ∀ {l : List Int}, l ≠ [] → maxD l ∈ l
  | [], h => absurd rfl h
  | [a], _ => by simp [maxD]
  | a :: b :: r, _ => by
    show max a (maxD (b :: r)) ∈ a :: b :: r
    by_cases h : a ≤ maxD (b :: r)
    · rw [Int.max_eq_right h]
      exact List.mem_cons_of_mem _ (maxD_mem (by simp))
    · rw [Int.max_eq_left (by omega)]
      exact List.mem_cons_self
theorem maxD_of {l : List Int} {m : Int} (h : m ∈ l) (hl : ∀ y ∈ l, y ≤ m) : m = maxD l := by
  have h1 := le_maxD h
  have h2 := hl _ (maxD_mem (List.ne_nil_of_mem h))
  omega
theorem maxD_all {l : List Int} {m : Int} (hl : ∀ y ∈ l, y = m) (h : l = [] → m = 0) : m = maxD l := by
  cases l with
  | nil => rw [h rfl]; rfl
  | cons a r =>
    have ha := hl a List.mem_cons_self
    subst ha
    exact maxD_of List.mem_cons_self fun y hy => by rw [hl y hy]; exact Int.le_refl _

/-! ### arrivals -/
/-- when the moment 0 reaches each node of a part of the order -/
def IsArr (lat : N → Int) (ls : List (N × N)) (o : List N) (A : N → Int) : Prop := ∀ x ∈ o, A x = maxD ((ins ls x).map fun y => A y + lat y)
/-- what comes over the lines, each with its delay -/
def reached (lat : N → Int) (zs : List ((N × N) × Int)) (B : N → Int) (x : N) : List Int := zs.filterMap fun z => if z.1.2 = x then some (B z.1.1 + lat z.1.1 + z.2) else none
def IsBy (lat : N → Int) (zs : List ((N × N) × Int)) (o : List N) (B : N → Int) : Prop := ∀ x ∈ o, B x = maxD (reached lat zs B x)
/-- what belongs together arrives together -/
def Meet (lat : N → Int) (zs : List ((N × N) × Int)) (o : List N) (B : N → Int) : Prop := ∀ x ∈ o, ∀ r ∈ reached lat zs B x, ∀ s ∈ reached lat zs B x, r = s
theorem mem_reached {lat : N → Int} {zs : List ((N × N) × Int)} {B : N → Int} {x : N} {r : Int} : r ∈ reached lat zs B x ↔ ∃ y d, ((y, x), d) ∈ zs ∧ r = B y + lat y + d := by
  unfold reached
  rw [List.mem_filterMap]
  constructor
  · rintro ⟨⟨⟨a, b⟩, d⟩, h, e⟩
    by_cases hb : b = x
    · subst hb
      simp at e
      exact ⟨a, d, h, e.symm⟩
    · simp [hb] at e
  · rintro ⟨y, d, h, rfl⟩
    exact ⟨((y, x), d), h, by simp⟩
/-- along an order there is a function by its own inputs -/
theorem exists_along {ls : List (N × N)} {o : List N} (h : Ord ls o) (G : N → (N → Int) → Int) (loc : ∀ x f g, (∀ y ∈ ins ls x, f y = g y) → G x f = G x g) : ∃ F : N → Int, ∀ x ∈ o, F x = G x F := by
  induction h with
  | nil => exact ⟨fun _ => 0, fun x hx => by simp at hx⟩
  | @snoc a z ha hz hi ih =>
    obtain ⟨F, hF⟩ := ih
    refine ⟨fun y => if y = z then G z F else F y, fun x hx => ?_⟩
    have same : ∀ x, (∀ y ∈ ins ls x, y ∈ a) → G x (fun y => if y = z then G z F else F y) = G x F := fun x hx => loc x _ _ fun y hy => by
      have : y ≠ z := fun e => hz (e ▸ hx y hy)
      simp [this]
    rcases List.mem_append.mp hx with hx | hx
    · have hne : x ≠ z := fun e => hz (e ▸ hx)
      show (if x = z then G z F else F x) = _
      rw [if_neg hne, same x ?_]
      · exact hF x hx
      · obtain ⟨i, hi2, e⟩ := List.getElem_of_mem hx
        have q := ha.at i x (by rw [List.getElem?_eq_getElem hi2, e])
        exact fun y hy => List.mem_of_mem_take (q.2 y hy)
    · have : x = z := by simpa using hx
      subst this
      show (if x = x then G x F else F x) = _
      rw [if_pos rfl, same x hi]
theorem exists_arr {ls : List (N × N)} {o : List N} (h : Ord ls o) (lat : N → Int) : ∃ A, IsArr lat ls o A :=
  exists_along h (fun x f => maxD ((ins ls x).map fun y => f y + lat y)) fun x f g e => by
    have : ((ins ls x).map fun y => f y + lat y) = (ins ls x).map fun y => g y + lat y := List.map_congr_left fun y hy => by rw [e y hy]
    rw [this]
theorem exists_by {ls : List (N × N)} {o : List N} (h : Ord ls o) (lat : N → Int) (zs : List ((N × N) × Int)) (hz : ∀ z ∈ zs, z.1 ∈ ls) : ∃ B, IsBy lat zs o B :=
  exists_along h (fun x f => maxD (reached lat zs f x)) fun x f g e => by
    have : reached lat zs f x = reached lat zs g x := by
      unfold reached
      have go : ∀ l : List ((N × N) × Int), (∀ z ∈ l, z.1 ∈ ls) → (l.filterMap fun z => if z.1.2 = x then some (f z.1.1 + lat z.1.1 + z.2) else none) = l.filterMap fun z => if z.1.2 = x then some (g z.1.1 + lat z.1.1 + z.2) else none := by
        intro l
        induction l with
        | nil => intro _; rfl
        | cons z r ih =>
          intro hl
          have ih := ih fun y hy => hl y (List.mem_cons_of_mem _ hy)
          rw [List.filterMap_cons, List.filterMap_cons, ih]
          by_cases hx : z.1.2 = x
          · have : z.1.1 ∈ ins ls x := mem_ins.mpr (by rw [← hx]; exact hl z List.mem_cons_self)
            simp only [if_pos hx, e _ this]
          · simp only [if_neg hx]
      exact go zs hz
    rw [this]

/-! ### the law's own claims -/
/-- delays that are the differences of a reaching F -/
def diffs (lat : N → Int) (ls : List (N × N)) (F : N → Int) : List Int := ls.map fun l => F l.2 - (F l.1 + lat l.1)
theorem mem_zip_map {α β : Type} {f : α → β} : ∀ {l : List α} {z : α × β}, z ∈ l.zip (l.map f) → z.1 ∈ l ∧ z.2 = f z.1
  | a :: r, z, h => by
    rw [List.map_cons, List.zip_cons_cons] at h
    rcases List.mem_cons.mp h with e | h
    · subst e; exact ⟨List.mem_cons_self, rfl⟩
    · obtain ⟨h1, h2⟩ := mem_zip_map h
      exact ⟨List.mem_cons_of_mem _ h1, h2⟩
theorem zip_map_mem {α β : Type} {f : α → β} : ∀ {l : List α} {a : α}, a ∈ l → (a, f a) ∈ l.zip (l.map f)
  | b :: r, a, h => by
    rw [List.map_cons, List.zip_cons_cons]
    rcases List.mem_cons.mp h with e | h
    · subst e; exact List.mem_cons_self
    · exact List.mem_cons_of_mem _ (zip_map_mem h)
/-- a reaching that is late enough everywhere: its differences keep the net together, and reach as it says -/
theorem diffs_ok {lat : N → Int} {ls : List (N × N)} {o : List N} {F : N → Int} (hin : ∀ l ∈ ls, l.1 ∈ o ∧ l.2 ∈ o) (h0 : ∀ x ∈ o, ins ls x = [] → F x = 0) (h1 : ∀ x ∈ o, ∀ y ∈ ins ls x, F y + lat y ≤ F x) :
    (∀ d ∈ diffs lat ls F, 0 ≤ d) ∧ IsBy lat (ls.zip (diffs lat ls F)) o F ∧ Meet lat (ls.zip (diffs lat ls F)) o F := by
  have all : ∀ x, ∀ r ∈ reached lat (ls.zip (diffs lat ls F)) F x, r = F x := fun x r hr => by
    obtain ⟨y, d, hz, rfl⟩ := mem_reached.mp hr
    obtain ⟨_, e⟩ := mem_zip_map hz
    have e : d = F x - (F y + lat y) := e
    omega
  refine ⟨fun d hd => ?_, fun x hx => ?_, fun x _ r hr s hs => by rw [all x r hr, all x s hs]⟩
  · obtain ⟨l, hl, rfl⟩ := List.mem_map.mp hd
    have := h1 l.2 (hin l hl).2 l.1 (mem_ins.mpr hl)
    omega
  · refine maxD_all (all x) fun e => h0 x hx ?_
    refine List.eq_nil_iff_forall_not_mem.mpr fun y hy => ?_
    have : F y + lat y + (F x - (F y + lat y)) ∈ reached lat (ls.zip (diffs lat ls F)) F x := mem_reached.mpr ⟨y, _, zip_map_mem (f := fun l => F l.2 - (F l.1 + lat l.1)) (mem_ins.mp hy), rfl⟩
    rw [e] at this
    simp at this
theorem arr_zero {lat : N → Int} {ls : List (N × N)} {o : List N} {A : N → Int} (h : IsArr lat ls o A) : ∀ x ∈ o, ins ls x = [] → A x = 0 := fun x hx e => by
  rw [h x hx, e]; rfl
theorem arr_le {lat : N → Int} {ls : List (N × N)} {o : List N} {A : N → Int} (h : IsArr lat ls o A) : ∀ x ∈ o, ∀ y ∈ ins ls x, A y + lat y ≤ A x := fun x hx y hy => by
  rw [h x hx]
  exact le_maxD (List.mem_map.mpr ⟨y, hy, rfl⟩)
theorem mem_zip_of {α β : Type} : ∀ {l : List α} {m : List β}, l.length = m.length → ∀ {a : α}, a ∈ l → ∃ b, (a, b) ∈ l.zip m
  | a :: r, b :: s, h, c, hc => by
    rw [List.zip_cons_cons]
    rcases List.mem_cons.mp hc with e | hc
    · subst e; exact ⟨b, List.mem_cons_self⟩
    · obtain ⟨d, hd⟩ := mem_zip_of (l := r) (m := s) (by simpa using h) hc
      exact ⟨d, List.mem_cons_of_mem _ hd⟩
/-- whatever delays keep the net together, nothing arrives earlier -/
theorem none_earlier {lat : N → Int} {ls : List (N × N)} {o : List N} (ho : Ord ls o) {A B : N → Int} {ds : List Int} (hl : ls.length = ds.length) (hd : ∀ d ∈ ds, 0 ≤ d) (hA : IsArr lat ls o A) (hB : IsBy lat (ls.zip ds) o B) :
    ∀ x ∈ o, A x ≤ B x := by
  have main : ∀ n, ∀ x ∈ o.take n, A x ≤ B x := by
    intro n
    induction n with
    | zero => intro x hx; simp at hx
    | succ n ih =>
      intro x hx
      rw [List.take_add_one] at hx
      rcases List.mem_append.mp hx with hx | hx
      · exact ih x hx
      · have e : o[n]? = some x := by
          cases q : o[n]? with
          | none => rw [q] at hx; simp at hx
          | some y => rw [q] at hx; simp at hx; rw [hx]
        have hxo : x ∈ o := List.mem_of_getElem? e
        obtain ⟨_, hin⟩ := ho.at n x e
        by_cases h0 : ins ls x = []
        · have hb : reached lat (ls.zip ds) B x = [] := List.eq_nil_iff_forall_not_mem.mpr fun r hr => by
            obtain ⟨y, d, hz, _⟩ := mem_reached.mp hr
            have : y ∈ ins ls x := mem_ins.mpr (List.of_mem_zip hz).1
            rw [h0] at this
            simp at this
          rw [hA x hxo, hB x hxo, h0, hb]
          exact Int.le_refl _
        · rw [hA x hxo]
          have hm := maxD_mem (l := (ins ls x).map fun y => A y + lat y) (by simpa using h0)
          obtain ⟨y, hy, ey⟩ := List.mem_map.mp hm
          rw [← ey]
          obtain ⟨d, hz⟩ := mem_zip_of hl (mem_ins.mp hy)
          have h1 : B y + lat y + d ≤ B x := by
            rw [hB x hxo]
            exact le_maxD (mem_reached.mpr ⟨y, d, hz, rfl⟩)
          have h2 := hd d (List.of_mem_zip hz).2
          have h3 := ih y (hin y hy)
          show A y + lat y ≤ B x
          omega
  intro x hx
  exact main o.length x (by rw [List.take_length]; exact hx)
end
end K44
/-! K44Base: the text by places, what readings evaluate to, the call of max with default=. -/
namespace K44
open PySem PySem.Spec PyProof.Rows L2 Evl
/-! ### the text -/
def topS (i : Nat) : Stmt := PySem.Challenge.pw_everyblock_k44_whole_nothing_arrives_ear.main.body.getD i (.Pass ⟨0, 0, 0, 0⟩)
abbrev s_lat : Stmt := topS 4
abbrev N_lat : List Str := ["spec"]
theorem sc_lat : FnScope N_lat ["spec"] (defScope s_lat) := ⟨rfl, rfl, rfl, by decide +kernel, rfl, by decide +kernel, by decide +kernel⟩
abbrev s_names : Stmt := topS 6
abbrev N_names : List Str := ["nodes", "node"]
theorem sc_names : FnScope N_names ["nodes"] (defScope s_names) := ⟨rfl, rfl, rfl, by decide +kernel, rfl, by decide +kernel, by decide +kernel⟩
abbrev s_spec : Stmt := topS 7
abbrev N_spec : List Str := ["nodes", "name", "node"]
theorem sc_spec : FnScope N_spec ["nodes", "name"] (defScope s_spec) := ⟨rfl, rfl, rfl, by decide +kernel, rfl, by decide +kernel, by decide +kernel⟩
abbrev s_inputs : Stmt := topS 8
abbrev N_inputs : List Str := ["lines", "name", "line"]
theorem sc_inputs : FnScope N_inputs ["lines", "name"] (defScope s_inputs) := ⟨rfl, rfl, rfl, by decide +kernel, rfl, by decide +kernel, by decide +kernel⟩
abbrev s_order : Stmt := topS 9
abbrev N_order : List Str := ["nodes", "lines", "names", "placed", "_", "name", "other"]
theorem sc_order : FnScope N_order ["nodes", "lines"] (defScope s_order) := ⟨rfl, rfl, rfl, by decide +kernel, rfl, by decide +kernel, by decide +kernel⟩
abbrev s_arr : Stmt := topS 10
abbrev N_arr : List Str := ["nodes", "lines", "found", "name", "other"]
theorem sc_arr : FnScope N_arr ["nodes", "lines"] (defScope s_arr) := ⟨rfl, rfl, rfl, by decide +kernel, rfl, by decide +kernel, by decide +kernel⟩
abbrev s_leaves : Stmt := topS 11
abbrev N_leaves : List Str := ["nodes", "found", "name"]
theorem sc_leaves : FnScope N_leaves ["nodes", "found", "name"] (defScope s_leaves) := ⟨rfl, rfl, rfl, by decide +kernel, rfl, by decide +kernel, by decide +kernel⟩
abbrev s_made : Stmt := topS 12
abbrev N_made : List Str := ["nodes", "lines", "found", "line"]
theorem sc_made : FnScope N_made ["nodes", "lines"] (defScope s_made) := ⟨rfl, rfl, rfl, by decide +kernel, rfl, by decide +kernel, by decide +kernel⟩
abbrev s_by : Stmt := topS 13
abbrev N_by : List Str := ["nodes", "lines", "delays", "delay", "found", "name", "reached", "line"]
theorem sc_by : FnScope N_by ["nodes", "lines", "delays"] (defScope s_by) := ⟨rfl, rfl, rfl, by decide +kernel, rfl, by decide +kernel, by decide +kernel⟩
abbrev s_draw : Stmt := topS 15
abbrev N_draw : List Str := ["_law_script", "_law_k", "_law_below", "_law_cell", "_law_turn", "_law_number"]
theorem sc_draw : FnScope N_draw ["_law_script", "_law_k", "_law_below"] (defScope s_draw) := ⟨rfl, rfl, rfl, by decide +kernel, rfl, by decide +kernel, by decide +kernel⟩
abbrev s_size : Stmt := topS 16
abbrev N_size : List Str := ["_law_script", "_law_k", "_law_few", "_law_most"]
theorem sc_size : FnScope N_size ["_law_script", "_law_k", "_law_few", "_law_most"] (defScope s_size) := ⟨rfl, rfl, rfl, by decide +kernel, rfl, by decide +kernel, by decide +kernel⟩
abbrev s_name : Stmt := topS 17
abbrev N_name : List Str := ["_law_script", "_law_k", "_law_first"]
theorem sc_name : FnScope N_name ["_law_script", "_law_k", "_law_first"] (defScope s_name) := ⟨rfl, rfl, rfl, by decide +kernel, rfl, by decide +kernel, by decide +kernel⟩
abbrev s_tempo : Stmt := topS 18
abbrev N_tempo : List Str := ["_law_script", "_law_k", "_law_tempo_here"]
theorem sc_tempo : FnScope N_tempo ["_law_script", "_law_k"] (defScope s_tempo) := ⟨rfl, rfl, rfl, by decide +kernel, rfl, by decide +kernel, by decide +kernel⟩
abbrev s_clip : Stmt := topS 19
abbrev N_clip : List Str := ["_law_script", "_law_k", "_law_notes", "_law_j", "_law_place", "_law_start", "_law_length", "_law_pitch", "_law_period"]
theorem sc_clip : FnScope N_clip ["_law_script", "_law_k"] (defScope s_clip) := ⟨rfl, rfl, rfl, by decide +kernel, rfl, by decide +kernel, by decide +kernel⟩
abbrev s_instr : Stmt := topS 20
abbrev N_instr : List Str := ["_law_script", "_law_k", "_law_kind", "_law_attack", "_law_release", "_law_steps"]
theorem sc_instr : FnScope N_instr ["_law_script", "_law_k"] (defScope s_instr) := ⟨rfl, rfl, rfl, by decide +kernel, rfl, by decide +kernel, by decide +kernel⟩
abbrev s_track : Stmt := topS 21
abbrev N_track : List Str := ["_law_script", "_law_k", "_law_name_here", "_law_clips", "_law_j"]
theorem sc_track : FnScope N_track ["_law_script", "_law_k", "_law_name_here"] (defScope s_track) := ⟨rfl, rfl, rfl, by decide +kernel, rfl, by decide +kernel, by decide +kernel⟩
abbrev s_effect : Stmt := topS 22
abbrev N_effect : List Str := ["_law_script", "_law_k", "_law_kind", "_law_points", "_law_tick", "_law_j", "_law_gains", "_law_frames"]
theorem sc_effect : FnScope N_effect ["_law_script", "_law_k"] (defScope s_effect) := ⟨rfl, rfl, rfl, by decide +kernel, rfl, by decide +kernel, by decide +kernel⟩
abbrev s_shuf : Stmt := topS 23
abbrev N_shuf : List Str := ["_law_script", "_law_k", "_law_row", "_law_rest", "_law_found", "_law_j"]
theorem sc_shuf : FnScope N_shuf ["_law_script", "_law_k", "_law_row"] (defScope s_shuf) := ⟨rfl, rfl, rfl, by decide +kernel, rfl, by decide +kernel, by decide +kernel⟩
abbrev s_net : Stmt := topS 24
abbrev N_net : List Str := ["_law_script", "_law_k", "_law_tracks", "_law_plain", "_law_nodes", "_law_j", "_law_track", "_law_lines", "_law_count", "_law_at", "_law_name_here", "_law_what_here", "_law_place"]
theorem sc_net : FnScope N_net ["_law_script", "_law_k", "_law_tracks", "_law_plain"] (defScope s_net) := ⟨rfl, rfl, rfl, by decide +kernel, rfl, by decide +kernel, by decide +kernel⟩
abbrev s_parts : Stmt := topS 25
abbrev N_parts : List Str := ["_law_script", "_law_k", "_law_plain", "_law_tracks", "_law_j", "_law_nodes", "_law_lines"]
theorem sc_parts : FnScope N_parts ["_law_script", "_law_k", "_law_plain"] (defScope s_parts) := ⟨rfl, rfl, rfl, by decide +kernel, rfl, by decide +kernel, by decide +kernel⟩
abbrev s_what : Stmt := topS 26
abbrev N_what : List Str := ["_law_parts_here", "_law_name_here", "_law_node"]
theorem sc_what : FnScope N_what ["_law_parts_here", "_law_name_here"] (defScope s_what) := ⟨rfl, rfl, rfl, by decide +kernel, rfl, by decide +kernel, by decide +kernel⟩
abbrev s_late : Stmt := topS 27
abbrev N_late : List Str := ["_law_what_here"]
theorem sc_late : FnScope N_late ["_law_what_here"] (defScope s_late) := ⟨rfl, rfl, rfl, by decide +kernel, rfl, by decide +kernel, by decide +kernel⟩
abbrev s_later : Stmt := topS 28
abbrev N_later : List Str := ["_law_script", "_law_k", "_law_parts_here", "_law_nodes", "_law_lines", "_law_found", "_law_name_here", "_law_reached", "_law_line"]
theorem sc_later : FnScope N_later ["_law_script", "_law_k", "_law_parts_here"] (defScope s_later) := ⟨rfl, rfl, rfl, by decide +kernel, rfl, by decide +kernel, by decide +kernel⟩
abbrev s_law : Stmt := topS 29
abbrev N_law : List Str := ["_law_script", "_law_parts_here", "_law_nodes", "_law_lines", "_law_least", "_law_delays", "_law_found", "_law_name_here", "_law_j"]
theorem sc_law : FnScope N_law ["_law_script"] (defScope s_law) := ⟨rfl, rfl, rfl, by decide +kernel, rfl, by decide +kernel, by decide +kernel⟩
/-- a def of the text as the others call it -/
structure Fn1 (K : PySem.W.Frag) (mg : Str → Option Value) (x : Str) (st : Stmt) (ps : List Str) (f : Addr) (fd : FuncData) : Prop where
  F : Fun K x x st f fd
  b : Binds K fd ps []
  g : mg x = some (.ref f)
structure Blt (mg : Str → Option Value) : Prop where
  len : mg "len" = none
  range : mg "range" = none
  all : mg "all" = none
  any : mg "any" = none
  max : mg "max" = none
  min : mg "min" = none
  int : mg "int" = none
  list : mg "list" = none
  tuple : mg "tuple" = none
  zip : mg "zip" = none
structure Tx (K : PySem.W.Frag) (mg : Str → Option Value) where
  B : Blt mg
  f_lat : Addr
  d_lat : FuncData
  t_lat : Fn1 K mg "latency_of" s_lat ["spec"] f_lat d_lat
  f_names : Addr
  d_names : FuncData
  t_names : Fn1 K mg "names_of" s_names ["nodes"] f_names d_names
  f_spec : Addr
  d_spec : FuncData
  t_spec : Fn1 K mg "spec_of" s_spec ["nodes", "name"] f_spec d_spec
  f_inputs : Addr
  d_inputs : FuncData
  t_inputs : Fn1 K mg "inputs_of" s_inputs ["lines", "name"] f_inputs d_inputs
  f_order : Addr
  d_order : FuncData
  t_order : Fn1 K mg "order_of" s_order ["nodes", "lines"] f_order d_order
  f_arr : Addr
  d_arr : FuncData
  t_arr : Fn1 K mg "arrivals" s_arr ["nodes", "lines"] f_arr d_arr
  f_leaves : Addr
  d_leaves : FuncData
  t_leaves : Fn1 K mg "leaves" s_leaves ["nodes", "found", "name"] f_leaves d_leaves
  f_made : Addr
  d_made : FuncData
  t_made : Fn1 K mg "made_up" s_made ["nodes", "lines"] f_made d_made
  f_by : Addr
  d_by : FuncData
  t_by : Fn1 K mg "arrive_by" s_by ["nodes", "lines", "delays"] f_by d_by
  f_draw : Addr
  d_draw : FuncData
  t_draw : Fn1 K mg "_law_draw" s_draw ["_law_script", "_law_k", "_law_below"] f_draw d_draw
  f_size : Addr
  d_size : FuncData
  t_size : Fn1 K mg "_law_size" s_size ["_law_script", "_law_k", "_law_few", "_law_most"] f_size d_size
  f_name : Addr
  d_name : FuncData
  t_name : Fn1 K mg "_law_name" s_name ["_law_script", "_law_k", "_law_first"] f_name d_name
  f_tempo : Addr
  d_tempo : FuncData
  t_tempo : Fn1 K mg "_law_tempo" s_tempo ["_law_script", "_law_k"] f_tempo d_tempo
  f_clip : Addr
  d_clip : FuncData
  t_clip : Fn1 K mg "_law_clip" s_clip ["_law_script", "_law_k"] f_clip d_clip
  f_instr : Addr
  d_instr : FuncData
  t_instr : Fn1 K mg "_law_instrument" s_instr ["_law_script", "_law_k"] f_instr d_instr
  f_track : Addr
  d_track : FuncData
  t_track : Fn1 K mg "_law_track_of" s_track ["_law_script", "_law_k", "_law_name_here"] f_track d_track
  f_effect : Addr
  d_effect : FuncData
  t_effect : Fn1 K mg "_law_effect" s_effect ["_law_script", "_law_k"] f_effect d_effect
  f_shuf : Addr
  d_shuf : FuncData
  t_shuf : Fn1 K mg "_law_shuffled" s_shuf ["_law_script", "_law_k", "_law_row"] f_shuf d_shuf
  f_net : Addr
  d_net : FuncData
  t_net : Fn1 K mg "_law_net" s_net ["_law_script", "_law_k", "_law_tracks", "_law_plain"] f_net d_net
  f_parts : Addr
  d_parts : FuncData
  t_parts : Fn1 K mg "_law_parts" s_parts ["_law_script", "_law_k", "_law_plain"] f_parts d_parts
  f_what : Addr
  d_what : FuncData
  t_what : Fn1 K mg "_law_what" s_what ["_law_parts_here", "_law_name_here"] f_what d_what
  f_late : Addr
  d_late : FuncData
  t_late : Fn1 K mg "_law_late" s_late ["_law_what_here"] f_late d_late
  f_later : Addr
  d_later : FuncData
  t_later : Fn1 K mg "_law_later" s_later ["_law_script", "_law_k", "_law_parts_here"] f_later d_later
  f_law : Addr
  d_law : FuncData
  t_law : Fn1 K mg "law" s_law ["_law_script"] f_law d_law
theorem hu0_of {A : Around} {k : Nat} (hr : Room k A) : A.units < cLine := by
  have := hr.un
  omega
theorem hu2_of {A : Around} {k : Nat} (hr : Room k A) : A.units + 2 < cLine := by
  have := hr.un
  omega

/-! ### max(xs, default=d) -/
theorem maxOf_spec : ∀ (xs : List Int) (x : Int), (PySem.W.maxOf x xs ∈ x :: xs) ∧ ∀ y ∈ x :: xs, y ≤ PySem.W.maxOf x xs
  | [], x => ⟨List.mem_cons_self, fun y h => by
    have : y = x := List.mem_singleton.mp h
    rw [this]
    exact Int.le_refl _⟩
  | z :: r, x => by
    have e : PySem.W.maxOf x (z :: r) = PySem.W.maxOf (if x < z then z else x) r := by
      show PySem.W.maxOf (if decide (x < z) = true then z else x) r = _
      by_cases h : x < z <;> simp [h]
    obtain ⟨h1, h2⟩ := maxOf_spec r (if x < z then z else x)
    rw [e]
    by_cases h : x < z
    · rw [if_pos h] at h1 h2 ⊢
      refine ⟨List.mem_cons_of_mem _ h1, fun y hy => ?_⟩
      rcases List.mem_cons.mp hy with q | q
      · rw [q]
        have := h2 z List.mem_cons_self
        omega
      · exact h2 y q
    · rw [if_neg h] at h1 h2 ⊢
      refine ⟨?_, fun y hy => ?_⟩
      · rcases List.mem_cons.mp h1 with q | q
        · rw [q]; exact List.mem_cons_self
        · exact List.mem_cons_of_mem _ (List.mem_cons_of_mem _ q)
      · rcases List.mem_cons.mp hy with q | q
        · rw [q]; exact h2 x List.mem_cons_self
        · rcases List.mem_cons.mp q with q | q
          · rw [q]
            have := h2 x List.mem_cons_self
            omega
          · exact h2 y (List.mem_cons_of_mem _ q)
theorem readsAll_ints {h : Heap} : ∀ {its : List Value} {ns : List Int}, Vals (ns.map V.int) its → ∃ as, ReadsAll h its (ns.map PyData.int) as
  | _, [], .nil => ⟨[], .nil⟩
  | _, n :: ns, .cons r t => by
    obtain ⟨u, rfl⟩ := r
    obtain ⟨as, h⟩ := readsAll_ints t
    exact ⟨_, .cons (.int n u) h⟩
def rMaxD (K : PySem.W.Frag) : List V → List V → Hp → VK → Prop := fun vs zs H Q => ∃ (a : Addr) (ns : List Int) (d : Int), vs = [V.ref a] ∧ zs = [V.int d] ∧ SqL K H a (ns.map V.int) ∧ (ns = [] → Q (.int d) H) ∧ (∀ m ∈ ns, (∀ y ∈ ns, y ≤ m) → Q (.int m) H)
theorem cr_maxD {X : Cx} (hu : X.A.units + 2 < cLine) (hc : X.calm = true) : CallRK X (.builtin "max") [Str.ofString "default"] (rMaxD X.K) := by
  intro pins s σ H vs zs us ws Q I r rz h
  obtain ⟨a, ns, d, rfl, rfl, hs, q0, q1⟩ := h
  obtain ⟨its, rv, hl, _⟩ := I.list hs
  rw [Vals.ref1 r]
  cases rz with
  | cons r1 rr =>
    cases rr
    rename_i u
    have hz : ([Str.ofString "default"] : List Str).zip [u] = [(Str.ofString "default", u)] := rfl
    rw [hz]
    have hI := rv.ints
    refine PySem.W.max_list_datum_default (α := Int) (xs := ns) (I.ok.hd hc) hl.isList ?_ ?_ ?_ ?_
    · exact readsAll_ints rv
    · show X.A.units + 1 + 0 < cLine
      omega
    · intro e h' tk hk
      exact ⟨.int d, H, I.kept hk, r1, q0 e⟩
    · intro y ys i v h' tk e hi hv hk
      obtain ⟨h1, h2⟩ := maxOf_spec ys y
      subst e
      refine ⟨.int (PySem.W.maxOf y ys), H, I.kept hk, ?_, q1 _ h1 h2⟩
      obtain ⟨as, hr⟩ := hv
      have hr : Reads h' v (.int (PySem.W.maxOf y ys)) as := hr
      cases hr with
      | int j t => exact ⟨t, rfl⟩
/-! ### evaluations to what is known by a word -/
section
variable {K : PySem.W.Frag} {σ : L2.St} {H H' : Hp} {te ta tb : TE} {tl : TA} {v x : V} {P R : V → Hp → Prop} {D : Ends} {tz tu tw : TS}
def EvP (te : TE) (σ : L2.St) (H : Hp) (P : V → Hp → Prop) : Prop := ∀ H1, Ex H H1 → ∀ Q : VK, (∀ v H2, Ex H1 H2 → P v H2 → Q v H2) → te σ H1 Q
def EvAP (ta : TA) (σ : L2.St) (H : Hp) (P : List V → Hp → Prop) : Prop := ∀ H1, Ex H H1 → ∀ Q : List V → Hp → Prop, (∀ vs H2, Ex H1 H2 → P vs H2 → Q vs H2) → ta σ H1 Q
theorem EvP.mono (e : Ex H H') (h : EvP te σ H P) : EvP te σ H' P := fun H1 a Q q => h H1 (e.trans a) Q q
theorem ep_of (h : Ev te σ H v) : EvP te σ H (fun x _ => x = v) := fun H1 e Q q => h H1 e Q fun H2 e2 => q v H2 e2 rfl
theorem ep_ofL {xs : List V} (h : EvL te σ H xs) : EvP te σ H (fun x H' => ∃ p, x = .ref p ∧ H' p = some (.lst xs)) := fun H1 e Q q => h H1 e Q fun p H2 _ e2 hp => q _ H2 e2 ⟨p, rfl, hp⟩
theorem ep_imp (h : EvP te σ H P) (hi : ∀ v H1, Ex H H1 → P v H1 → R v H1) : EvP te σ H R := fun H1 e Q q => h H1 e Q fun v H2 e2 hp => q v H2 e2 (hi v H2 (e.trans e2) hp)
theorem ep_any (h : EvP te σ H P) : EvP te σ H (fun _ _ => True) := ep_imp h fun _ _ _ _ => trivial
theorem eap_of {vs : List V} (h : EvA tl σ H vs) : EvAP tl σ H (fun ws _ => ws = vs) := fun H1 e Q q => h H1 e Q fun H2 e2 => q vs H2 e2 rfl
theorem eap_nil : EvAP tNil σ H (fun ws _ => ws = []) := eap_of ea_nil
theorem eap_cons {S : List V → Hp → Prop} (h : EvP te σ H P) (hr : EvAP tl σ H S) (mono : ∀ v H1 H2, Ex H1 H2 → P v H1 → P v H2) : EvAP (tCons te tl) σ H (fun ws H' => ∃ y ys, ws = y :: ys ∧ P y H' ∧ S ys H') := fun H1 e Q q =>
  h H1 e _ fun y H2 e2 hp => hr H2 (e.trans e2) _ fun ys H3 e3 hs => q _ H3 (e2.trans e3) ⟨y, ys, rfl, mono y H2 H3 e3 hp, hs⟩
/-- what a def promises, called -/
def SpP (sp : Sp) (vs : List V) (H : Hp) (P : V → Hp → Prop) : Prop := ∀ H1, Ex H H1 → ∀ Q : VK, (∀ v H2, Ex H1 H2 → P v H2 → Q v H2) → ∀ E : XK, sp vs H1 Q E
theorem ep_call {sp : Sp} {dvs vs : List V} {E : XK} (h : EvA tl σ H vs) (hs : SpP sp (vs ++ dvs) H P) : EvP (tCall sp dvs E tl) σ H P := fun H1 e Q q =>
  h H1 e _ fun H2 e2 => hs H2 (e.trans e2) Q (fun v H3 e3 hp => q v H3 (e2.trans e3) hp) E
theorem ep_callP {sp : Sp} {dvs : List V} {S : List V → Hp → Prop} {E : XK} (h : EvAP tl σ H S) (hs : ∀ vs H1, Ex H H1 → S vs H1 → SpP sp (vs ++ dvs) H1 P) : EvP (tCall sp dvs E tl) σ H P := fun H1 e Q q =>
  h H1 e _ fun vs H2 e2 hv => hs vs H2 (e.trans e2) hv H2 (Ex.refl H2) Q (fun v H3 e3 hp => q v H3 (e2.trans e3) hp) E
theorem ev_callP {sp : Sp} {dvs : List V} {S : List V → Hp → Prop} {E : XK} (h : EvAP tl σ H S) (hs : ∀ vs H1, Ex H H1 → S vs H1 → SpV sp (vs ++ dvs) H1 v) : Ev (tCall sp dvs E tl) σ H v := fun H1 e Q q =>
  h H1 e _ fun vs H2 e2 hv => hs vs H2 (e.trans e2) hv H2 (Ex.refl H2) Q (fun H3 e3 => q H3 (e2.trans e3)) E
theorem ep_tup {S : List V → Hp → Prop} (h : EvAP tl σ H S) (hl : ∀ vs H1, S vs H1 → vs.length ≤ 100000) (mono : ∀ vs H1 H2, Ex H1 H2 → S vs H1 → S vs H2) :
    EvP (tTup tl) σ H (fun v H' => ∃ p vs, v = .ref p ∧ H' p = some (.tup vs) ∧ S vs H') := fun H1 e Q q =>
  h H1 e _ fun vs H2 e2 hs => ⟨sz_of (hl vs H2 hs), fun p hp => q _ _ (e2.trans (Ex.new hp)) ⟨p, vs, rfl, upd_same, mono vs H2 _ (Ex.new hp) hs⟩⟩
theorem ep_if {b : Bool} {t : TT} (h : EvT t σ H b) (h1 : b = true → EvP ta σ H P) (h2 : b = false → EvP tb σ H P) : EvP (tIf t ta tb) σ H P := fun H1 e Q q => h H1 e _ fun H2 e2 => by
  cases b with
  | true => exact h1 rfl H2 (e.trans e2) Q fun v H3 e3 hp => q v H3 (e2.trans e3) hp
  | false => exact h2 rfl H2 (e.trans e2) Q fun v H3 e3 hp => q v H3 (e2.trans e3) hp
/-- an operation on a value that is known by a word -/
theorem ev_opP {r : R2} {y z : V} (ha : EvP ta σ H P) (hb : Ev tb σ H y) (mono : ∀ v H1 H2, Ex H1 H2 → P v H1 → P v H2) (hr : ∀ v H1, Ex H H1 → P v H1 → RV r v y H1 z) : Ev (tOp r ta tb) σ H z := fun H1 e Q q =>
  ha H1 e _ fun v H2 e2 hp => hb H2 (e.trans e2) _ fun H3 e3 => hr v H3 ((e.trans e2).trans e3) (mono v H2 H3 e3 hp) H3 (Ex.refl H3) Q fun H4 e4 => q H4 ((e2.trans e3).trans e4)
theorem ep_opP {r : R2} {y : V} (ha : EvP ta σ H P) (hb : Ev tb σ H y) (mono : ∀ v H1 H2, Ex H1 H2 → P v H1 → P v H2) (hr : ∀ v H1, Ex H H1 → P v H1 → ∀ Q : VK, (∀ z H2, Ex H1 H2 → R z H2 → Q z H2) → r v y H1 Q) : EvP (tOp r ta tb) σ H R := fun H1 e Q q =>
  ha H1 e _ fun v H2 e2 hp => hb H2 (e.trans e2) _ fun H3 e3 => hr v H3 ((e.trans e2).trans e3) (mono v H2 H3 e3 hp) Q fun z H4 e4 hz => q z H4 ((e2.trans e3).trans e4) hz
/-! statements -/
theorem s_asgP {i : Nat} (h : EvP te σ H P) (k : ∀ v H1, Ex H H1 → P v H1 → D.nx (σ.set i (some v)) H1) : tAsg te (gName i) D σ H := h H (Ex.refl H) _ fun v H1 e hp => k v H1 e hp
theorem q_asgP {i : Nat} (h : EvP te σ H P) (k : ∀ v H1, Ex H H1 → P v H1 → tz D (σ.set i (some v)) H1) : tSeq (tAsg te (gName i)) tz D σ H := s_asgP (D := { D with nx := tz D }) h k
theorem s_retP (h : EvP te σ H P) (k : ∀ v H1, Ex H H1 → P v H1 → D.rt v H1) : tRet te D σ H := h H (Ex.refl H) _ k
theorem s_appP {l : Addr} {xs : List V} (hl : H l = some (.lst xs)) (ha : Ev ta σ H (.ref l)) (h : EvP te σ H P) (hz : xs.length < 100000) (k : ∀ v H1, Ex H H1 → P v H1 → H1 l = some (.lst xs) → D.nx σ (upd H1 l (.lst (xs ++ [v])))) :
    tDrop (tBM K "list" rAppend ta (tCons te tNil)) D σ H := ha H (Ex.refl H) _ fun H1 e1 =>
  ⟨Or.inl ⟨rfl, xs, sq_of (e1 l _ hl)⟩, h H1 e1 _ fun v H2 e2 hp => ⟨l, xs, v, rfl, rfl, e2 l _ (e1 l _ hl), sz_lt hz, k v H2 (e1.trans e2) hp (e2 l _ (e1 l _ hl))⟩⟩
theorem q_appP {l : Addr} {xs : List V} (hl : H l = some (.lst xs)) (ha : Ev ta σ H (.ref l)) (h : EvP te σ H P) (hz : xs.length < 100000) (k : ∀ v H1, Ex H H1 → P v H1 → H1 l = some (.lst xs) → tz D σ (upd H1 l (.lst (xs ++ [v])))) :
    tSeq (tDrop (tBM K "list" rAppend ta (tCons te tNil))) tz D σ H := s_appP (D := { D with nx := tz D }) hl ha h hz k
/-! what only leans on tuples stays when anything else is written -/
def Tx1 (K : PySem.W.Frag) (H H' : Hp) : Prop := ∀ a xs, SqT K H a xs → SqT K H' a xs
theorem Tx1.of (e : Ex H H') : Tx1 K H H' := fun _ _ h => ex_t e h
theorem Tx1.trans {H1 H2 : Hp} (a : Tx1 K H H1) (b : Tx1 K H1 H2) : Tx1 K H H2 := fun p xs h => b p xs (a p xs h)
theorem Tx1.put {l : Addr} {xs : List V} {o : HO} (h : H l = some (.lst xs)) : Tx1 K H (upd H l o) := fun a ys q => by
  rcases q with (q | ⟨ob, q⟩) | q
  · exact .inl (.inl (by rw [upd_ne (ne_of q h (by intro z; cases z))]; exact q))
  · exact .inl (.inr ⟨ob, by rw [upd_ne (ne_of q h (by intro z; cases z))]; exact q⟩)
  · exact .inr q
/-! comprehensions by a list in Lean -/
theorem given_fm {α : Type} (ls : List α) (F : α → Option V) (f : Nat → Bool) (v : Nat → V) (h : ∀ i a, ls[i]? = some a → f i = (F a).isSome ∧ ∀ y, F a = some y → v i = y) : given ls.length f v = ls.filterMap F := by
  have go : ∀ k, k ≤ ls.length → given k f v = (ls.take k).filterMap F := by
    intro k
    induction k with
    | zero => intro _; rfl
    | succ k ih =>
      intro hk
      have hlt : k < ls.length := hk
      have ih := ih (Nat.le_of_lt hlt)
      obtain ⟨h1, h2⟩ := h k ls[k] (List.getElem?_eq_getElem hlt)
      have et : ls.take (k + 1) = ls.take k ++ [ls[k]] := by
        rw [List.take_add_one, List.getElem?_eq_getElem hlt]
        rfl
      rw [et, List.filterMap_append]
      cases e : F ls[k] with
      | none =>
        rw [e] at h1
        rw [given_no h1, ih, List.filterMap_cons, e]
        simp
      | some y =>
        rw [e] at h1
        rw [given_yes h1, ih, List.filterMap_cons, e, h2 y e]
        simp
  rw [go ls.length (Nat.le_refl _), List.take_length]
theorem el_is {xs ys : List V} (h : EvL te σ H xs) (e : xs = ys) : EvL te σ H ys := by rw [← e]; exact h
end
end K44
/-! K44Net0: nodes and lines in the heap; latency_of, names_of, spec_of, inputs_of. -/
namespace K44
open PySem PySem.Spec PyProof.Rows L2 Evl
section
variable {K : PySem.W.Frag} {H H' : Hp} {v : V}
def IsWhat (K : PySem.W.Frag) (H : Hp) (v : V) (lat : Int) : Prop := ∃ a k rest, v = .ref a ∧ SqT K H a (.str k :: rest) ∧ ((k = "ahead" ∧ ∃ r, rest = .int lat :: r) ∨ (k ≠ "ahead" ∧ lat = 0))
def NodeAt (K : PySem.W.Frag) (H : Hp) (v : V) (d : Str × Int) : Prop := ∃ p w, v = .ref p ∧ SqT K H p [.str d.1, w] ∧ IsWhat K H w d.2
def LineAt (K : PySem.W.Frag) (H : Hp) (v : V) (l : Str × Str) : Prop := ∃ p, v = .ref p ∧ SqT K H p [.str l.1, .str l.2]
theorem IsWhat.tx {lat : Int} (e : Tx1 K H H') (h : IsWhat K H v lat) : IsWhat K H' v lat := by
  obtain ⟨a, k, r, h1, h2, h3⟩ := h
  exact ⟨a, k, r, h1, e _ _ h2, h3⟩
theorem NodeAt.tx {d : Str × Int} (e : Tx1 K H H') (h : NodeAt K H v d) : NodeAt K H' v d := by
  obtain ⟨p, w, h1, h2, h3⟩ := h
  exact ⟨p, w, h1, e _ _ h2, h3.tx e⟩
theorem LineAt.tx {l : Str × Str} (e : Tx1 K H H') (h : LineAt K H v l) : LineAt K H' v l := by
  obtain ⟨p, h1, h2⟩ := h
  exact ⟨p, h1, e _ _ h2⟩
def Nodes (K : PySem.W.Frag) (H : Hp) (a : Addr) (nds : List (Str × Int)) : Prop := nds.length ≤ 1000 ∧ ∃ ps, SqL K H a ps ∧ Paired (NodeAt K H) ps nds
def Lines (K : PySem.W.Frag) (H : Hp) (a : Addr) (ls : List (Str × Str)) : Prop := ls.length ≤ 1000 ∧ ∃ ps, SqL K H a ps ∧ Paired (LineAt K H) ps ls
theorem Nodes.ex {a : Addr} {nds : List (Str × Int)} (e : Ex H H') (h : Nodes K H a nds) : Nodes K H' a nds := by
  obtain ⟨z, ps, h1, h2⟩ := h
  exact ⟨z, ps, ex_l e h1, Paired.mapP h2 fun _ _ q => q.tx (.of e)⟩
theorem Lines.ex {a : Addr} {ls : List (Str × Str)} (e : Ex H H') (h : Lines K H a ls) : Lines K H' a ls := by
  obtain ⟨z, ps, h1, h2⟩ := h
  exact ⟨z, ps, ex_l e h1, Paired.mapP h2 fun _ _ q => q.tx (.of e)⟩
theorem paired_at {α β : Type} {F : α → β → Prop} : ∀ {l : List α} {m : List β}, Paired F l m → ∀ {i : Nat} {x : α}, l[i]? = some x → ∃ y, m[i]? = some y ∧ F x y
  | _, _, .nil, _, _, e => by simp at e
  | _, _, .cons r t, 0, _, e => by simp at e; subst e; exact ⟨_, rfl, r⟩
  | _, _, .cons _ t, i + 1, x, e => by
    obtain ⟨y, h1, h2⟩ := paired_at t (i := i) (x := x) (by simpa using e)
    exact ⟨y, by simpa using h1, h2⟩
def latIn (nds : List (Str × Int)) (x : Str) : Int := ((nds.find? fun d => decide (d.1 = x)).map (·.2)).getD 0
/-! the promises -/
def spLat (K : PySem.W.Frag) : Sp := fun vs H Q _ => ∃ w lat, vs = [w] ∧ IsWhat K H w lat ∧ RetV (.int lat) H Q
def spNames (K : PySem.W.Frag) : Sp := fun vs H Q _ => ∃ a nds, vs = [.ref a] ∧ Nodes K H a nds ∧ RetL (nds.map fun d => V.str d.1) H Q
def spSpec (K : PySem.W.Frag) : Sp := fun vs H Q _ => ∃ a nds x, vs = [.ref a, .str x] ∧ Nodes K H a nds ∧ x ∈ nds.map (·.1) ∧ ∀ w H', Ex H H' → IsWhat K H' w (latIn nds x) → Q w H'
def spInputs (K : PySem.W.Frag) : Sp := fun vs H Q _ => ∃ a ls x, vs = [.ref a, .str x] ∧ Lines K H a ls ∧ RetL ((ins ls x).map V.str) H Q
end
section
variable {P : Program} {w : World} {K : PySem.W.Frag} {mg : Str → Option Value} {base : Heap}
theorem ix0 {σ : L2.St} {H : Hp} {i : Nat} {p : Addr} {x : V} {r : List V} (hv : σ[i]? = some (some (.ref p))) (h : SqT K H p (x :: r)) : Ev (tOp (rIxT K) (tVar i) (tC (.int 0))) σ H x := ev_op (ev_var hv) ev_c (rv_ixT h (atI_nat (j := 0) rfl))
theorem ix1 {σ : L2.St} {H : Hp} {i : Nat} {p : Addr} {x y : V} {r : List V} (hv : σ[i]? = some (some (.ref p))) (h : SqT K H p (x :: y :: r)) : Ev (tOp (rIxT K) (tVar i) (tC (.int 1))) σ H y := ev_op (ev_var hv) ev_c (rv_ixT h (atI_nat (j := 1) rfl))
theorem ok_lat (T : Tx K mg) : FnOk P w K mg base CX0 1 T.f_lat T.d_lat ["spec"] (spLat K) := by
  refine T.t_lat.F.ok sc_lat (fun vs H Q E h => ?_) (fun cdv A outer s H vs Q E hr h => ?_)
  · obtain ⟨w, lat, rfl, _⟩ := h
    rfl
  obtain ⟨w, lat, rfl, ⟨a, k, rest, rfl, hT, hk⟩, q⟩ := h
  refine ⟨_, (pss_cons (ps_if (pt_cmpR op_eq (pe_ix (r := rIxT K) ix_tup (pv 0) pe_int (fun _ _ => rfl)) pe_str (nomark _)) (pss_one (ps_ret (pe_ix (r := rIxT K) ix_tup (pv 0) pe_int (fun _ _ => rfl)))) pss_nil)
      (pss_one (ps_ret pe_int))), ?_⟩
  refine q_when (b := decide (V.str k = V.str "ahead")) (et_test (ev_op (ix0 rfl hT) ev_c (rv_eq rfl))) (fun hb H1 e1 => ?_) (fun hb H1 e1 => ?_)
  · have hk1 : k = "ahead" := V.str.inj (of_decide_eq_true hb)
    rcases hk with ⟨_, r, rfl⟩ | ⟨hn, _⟩
    · exact s_ret (ix1 rfl (ex_t e1 hT)) fun H2 e2 => q H2 (e1.trans e2)
    · exact absurd hk1 hn
  · rcases hk with ⟨hk1, _⟩ | ⟨_, rfl⟩
    · rw [hk1] at hb
      exact absurd hb (by simp)
    · exact s_ret ev_c fun H2 e2 => q H2 (e1.trans e2)
theorem ok_names (T : Tx K mg) : FnOk P w K mg base CX0 1 T.f_names T.d_names ["nodes"] (spNames K) := by
  refine T.t_names.F.ok sc_names (fun vs H Q E h => ?_) (fun cdv A outer s H vs Q E hr h => ?_)
  · obtain ⟨a, nds, rfl, _⟩ := h
    rfl
  obtain ⟨a, nds, rfl, ⟨hz, ps, hS, hp⟩, q⟩ := h
  refine ⟨_, (pss_one (ps_ret (pe_lc (own := [("node", 1)]) (g := gName 1) rfl sc_names.nd (pi_list (pv 0)) (blkOk_by (N := N_names) (sc := defScope s_names) (by decide +kernel)) (fun _ _ _ _ _ => pg_name (i := 1) sc_names.nd rfl (.inl rfl)) (fun _ _ _ _ _ => pts_nil) (fun _ _ _ _ _ => (pe_ix (r := rIxT K) ix_tup (pv 1) pe_int (fun _ _ => rfl)))))), ?_⟩
  have hlen : ps.length = nds.length := Paired.length hp
  refine s_retL (el_is (el_lcL (f := fun _ => true) (v := fun i => match nds[i]? with | some d => .str d.1 | none => .non) (ev_var rfl) hS (by omega) (fun _ => rfl) (fun i x H1 e1 hx => ?_) (fun i x H1 e1 hx _ => ?_)) ?_) fun p H2 hp2 e2 hl => q p H2 hp2 e2 hl
  · exact fun H2 e2 Q q => q H2 (Ex.refl H2)
  · obtain ⟨d, hd, p, w', rfl, hn, _⟩ := paired_at hp hx
    rw [hd]
    exact ix0 rfl (ex_t e1 hn)
  · rw [hlen, ← List.filterMap_eq_map]
    refine given_fm nds _ _ _ fun i d hd => ⟨rfl, fun y hy => ?_⟩
    rw [hd]
    exact Option.some.inj hy
end
end K44
/-! K44Net1: spec_of, inputs_of, leaves, order_of. -/
namespace K44
open PySem PySem.Spec PyProof.Rows L2 Evl
theorem latIn_at {nds : List (Str × Int)} {x : Str} : ∀ {i : Nat} {d : Str × Int}, nds[i]? = some d → d.1 = x → x ∉ (nds.take i).map (·.1) → latIn nds x = d.2 := by
  induction nds with
  | nil => intro i d h; simp at h
  | cons c r ih =>
    intro i d h e hn
    cases i with
    | zero =>
      have : c = d := by simpa using h
      subst this
      unfold latIn
      rw [List.find?_cons_of_pos (by simpa using e)]
      rfl
    | succ i =>
      have hc : c.1 ≠ x := fun q => hn (by rw [List.take_succ_cons, List.map_cons, q]; exact List.mem_cons_self)
      have := ih (i := i) (d := d) (by simpa using h) e fun q => hn (by rw [List.take_succ_cons, List.map_cons]; exact List.mem_cons_of_mem _ q)
      unfold latIn at this ⊢
      rw [List.find?_cons_of_neg (by simpa using hc)]
      exact this
theorem str_ne {a b : Str} (h : decide (V.str a = V.str b) = false) : a ≠ b := fun e => by rw [e] at h; exact absurd h (by simp)
theorem str_eq {a b : Str} (h : decide (V.str a = V.str b) = true) : a = b := V.str.inj (of_decide_eq_true h)
theorem not_take_succ {α : Type} {l : List α} {i : Nat} {a x : α} (h : l[i]? = some a) (hx : x ∉ l.take i) (hn : a ≠ x) : x ∉ l.take (i + 1) := by
  rw [List.take_add_one, h]
  intro q
  rcases List.mem_append.mp q with q | q
  · exact hx q
  · exact hn (List.mem_singleton.mp q).symm
section
variable {P : Program} {w : World} {K : PySem.W.Frag} {mg : Str → Option Value} {base : Heap}
theorem ok_spec (T : Tx K mg) : FnOk P w K mg base CX0 1 T.f_spec T.d_spec ["nodes", "name"] (spSpec K) := by
  refine T.t_spec.F.ok sc_spec (fun vs H Q E h => ?_) (fun cdv A outer s H vs Q E hr h => ?_)
  · obtain ⟨a, nds, x, rfl, _⟩ := h
    rfl
  obtain ⟨a, nds, x, rfl, ⟨hz, ps, hS, hp⟩, hx, q⟩ := h
  refine ⟨_, (pss_cons (ps_for PassesOwn.never rfl (pi_list (pv 0)) (pg_name (i := 2) sc_spec.nd rfl (.inl rfl))
        (pss_one (ps_if (pt_cmpR op_eq (pe_ix (r := rIxT K) ix_tup (pv 2) pe_int (fun _ _ => rfl)) (pv 1) (nomark _)) (pss_one (ps_ret (pe_ix (r := rIxT K) ix_tup (pv 2) pe_int (fun _ _ => rfl)))) pss_nil)))
      (pss_one ps_never)), ?_⟩
  have hlen : ps.length = nds.length := Paired.length hp
  refine q_forLn (ev_var rfl) hS (fun i σ' H' => ∃ y, σ' = [some (.ref a), some (.str x), y] ∧ Ex H H' ∧ x ∉ (nds.map (·.1)).take i) (fun H1 e1 => ⟨none, rfl, e1, by simp⟩) (fun i σ' H' _ h => ?_) (fun i v σ' H' hv h => ?_) (fun σ' H' h => ?_)
  · obtain ⟨y, _, e, _⟩ := h
    exact ex_l e hS
  · obtain ⟨y, rfl, e, hn⟩ := h
    obtain ⟨d, hd, p, w', rfl, hT, hW⟩ := paired_at hp hv
    have hd1 : (nds.map (·.1))[i]? = some d.1 := by rw [List.getElem?_map, hd]; rfl
    refine s_when (b := decide (V.str d.1 = V.str x)) (et_test (ev_op (ix0 rfl (ex_t e hT)) (ev_var rfl) (rv_eq rfl))) (fun hb H1 e1 => ?_) (fun hb H1 e1 => ?_)
    · have hdx := str_eq hb
      refine s_ret (ix1 rfl (ex_t (e.trans e1) hT)) fun H2 e2 => q w' H2 ((e.trans e1).trans e2) ?_
      rw [latIn_at hd hdx (by rw [List.map_take]; exact hn)]
      exact hW.tx (.of ((e.trans e1).trans e2))
    · exact ⟨_, rfl, e.trans e1, not_take_succ hd1 hn (str_ne hb)⟩
  · obtain ⟨y, rfl, e, hn⟩ := h
    rw [hlen, ← List.length_map (f := fun d : Str × Int => d.1), List.take_length] at hn
    exact absurd hx hn
theorem ok_inputs (T : Tx K mg) : FnOk P w K mg base CX0 1 T.f_inputs T.d_inputs ["lines", "name"] (spInputs K) := by
  refine T.t_inputs.F.ok sc_inputs (fun vs H Q E h => ?_) (fun cdv A outer s H vs Q E hr h => ?_)
  · obtain ⟨a, nds, x, rfl, _⟩ := h
    rfl
  obtain ⟨a, ls, x, rfl, ⟨hz, ps, hS, hp⟩, q⟩ := h
  refine ⟨_, (pss_one (ps_ret (pe_lc (own := [("line", 2)]) (g := gName 2) rfl sc_inputs.nd (pi_list (pv 0)) (blkOk_by (N := N_inputs) (sc := defScope s_inputs) (by decide +kernel)) (fun _ _ _ _ _ => pg_name (i := 2) sc_inputs.nd rfl (.inl rfl)) (fun _ _ _ _ _ => pts_one (pt_cmpR op_eq (pe_ix (r := rIxT K) ix_tup (pv 2) pe_int (fun _ _ => rfl)) (pv 1) (nomark _))) (fun _ _ _ _ _ => (pe_ix (r := rIxT K) ix_tup (pv 2) pe_int (fun _ _ => rfl)))))), ?_⟩
  have hlen : ps.length = ls.length := Paired.length hp
  refine s_retL (el_is (el_lcL (f := fun i => match ls[i]? with | some l => decide (V.str l.2 = V.str x) | none => false) (v := fun i => match ls[i]? with | some l => .str l.1 | none => .non) (ev_var rfl) hS (by omega) (fun _ => rfl) (fun i v H1 e1 hv => ?_) (fun i v H1 e1 hv _ => ?_)) ?_) fun p H2 hp2 e2 hl => q p H2 hp2 e2 hl
  · obtain ⟨l, hl, p, rfl, hn⟩ := paired_at hp hv
    rw [hl]
    exact et_test (ev_op (ix1 rfl (ex_t e1 hn)) (ev_var rfl) (rv_eq rfl))
  · obtain ⟨l, hl, p, rfl, hn⟩ := paired_at hp hv
    rw [hl]
    exact ix0 rfl (ex_t e1 hn)
  · rw [hlen]
    unfold ins
    rw [List.map_filterMap]
    refine given_fm ls _ _ _ fun i l hl => ?_
    rw [hl]
    by_cases h : l.2 = x
    · simp [h]
    · simp [h]
/-! dicts from names to frames -/
def dOf (A : Str → Int) (o : List Str) : List (Key × V) := o.map fun x => (Sum.inr x, V.int (A x))
theorem dOf_len (A : Str → Int) (o : List Str) : (dOf A o).length = o.length := by unfold dOf; exact List.length_map _
theorem val_dOf {A : Str → Int} {x : Str} : ∀ {o : List Str}, x ∈ o → valV (dOf A o) (Sum.inr x) = some (.int (A x))
  | y :: r, h => by
    by_cases e : y = x
    · subst e
      exact valV_pos rfl
    · have : x ∈ r := by
        rcases List.mem_cons.mp h with q | q
        · exact absurd q.symm e
        · exact q
      exact (valV_neg (fun q => e (Sum.inr.inj q))).trans (val_dOf this)
theorem val_dOf_none {A : Str → Int} {x : Str} : ∀ {o : List Str}, x ∉ o → valV (dOf A o) (Sum.inr x) = none
  | [], _ => rfl
  | y :: r, h => (valV_neg (fun q => h (by rw [Sum.inr.inj q]; exact List.mem_cons_self))).trans (val_dOf_none fun q => h (List.mem_cons_of_mem _ q))
theorem dOf_snoc (A : Str → Int) (o : List Str) (x : Str) : dOf A (o ++ [x]) = dOf A o ++ [(Sum.inr x, V.int (A x))] := by unfold dOf; rw [List.map_append]; rfl
theorem dOf_congr {A B : Str → Int} {o : List Str} (h : ∀ x ∈ o, A x = B x) : dOf A o = dOf B o := by unfold dOf; exact List.map_congr_left fun x hx => by rw [h x hx]
def spLeaves (K : PySem.W.Frag) : Sp := fun vs H Q _ => ∃ a d nds kvs x z, vs = [.ref a, .ref d, .str x] ∧ Nodes K H a nds ∧ x ∈ nds.map (·.1) ∧ H d = some (.dK kvs) ∧ valV kvs (Sum.inr x) = some (.int z) ∧ RetV (.int (z + latIn nds x)) H Q
theorem ev_dget {td ty : TE} {σ : L2.St} {H : Hp} {d : Addr} {kvs : List (Key × V)} {x : Str} {v : V} (hd : Ev td σ H (.ref d)) (hy : Ev ty σ H (.str x)) (h : H d = some (.dK kvs)) (hv : valV kvs (Sum.inr x) = some v) : Ev (tDGet td ty) σ H v := fun H1 e Q q =>
  hd H1 e _ fun H2 e2 => hy H2 (e.trans e2) _ fun H3 e3 => ⟨d, v, rfl, by
    have g := DGet.k (k := Sum.inr x) (((e.trans e2).trans e3) d _ h)
    rw [hv] at g
    exact g, q H3 (e2.trans e3)⟩
theorem ok_leaves (T : Tx K mg) : FnOk P w K mg base CX0 2 T.f_leaves T.d_leaves ["nodes", "found", "name"] (spLeaves K) := by
  refine T.t_leaves.F.ok sc_leaves (fun vs H Q E h => ?_) (fun cdv A outer s H vs Q E hr h => ?_)
  · obtain ⟨a, d, nds, kvs, x, z, rfl, _⟩ := h
    rfl
  obtain ⟨a, d, nds, kvs, x, z, rfl, hN, hx, hd, hv, q⟩ := h
  refine ⟨_, (pss_one (ps_ret (pe_op op_add (pe_dget (hu_of hr) (pv 1) (pv 2) (fun _ _ => rfl)) (pe_call (ok_lat T) (hr.mono (by decide)) (by rfl) T.t_lat.g T.t_lat.F.kp T.t_lat.b .nil pass0 (pa_cons (pe_call (ok_spec T) (hr.mono (by decide)) (by rfl) T.t_spec.g T.t_spec.F.kp T.t_spec.b .nil pass0 (pa_cons (pv 0) (pa_cons (pv 2) pa_nil))) pa_nil))))), ?_⟩
  refine s_ret (ev_op (ev_dget (ev_var rfl) (ev_var rfl) hd hv) (ev_callP (eap_cons (P := fun w' H' => IsWhat K H' w' (latIn nds x)) (ep_call (ea_cons (ev_var rfl) (ea_cons (ev_var rfl) ea_nil)) fun H1 e1 Q q E => ⟨a, nds, x, rfl, hN.ex e1, hx, fun w' H' e h => q w' H' e h⟩) eap_nil fun v H1 H2 e h => h.tx (.of e)) (v := .int (latIn nds x)) fun vs H1 e1 h => ?_) rv_I0) fun H2 e2 => q H2 e2
  obtain ⟨y, ys, rfl, hy, rfl⟩ := h
  exact fun H2 e2 Q q E => ⟨y, latIn nds x, rfl, hy.tx (.of e2), fun H3 e3 => q H3 e3⟩
end
end K44
/-! K44Net2: order_of, arrivals, made_up. -/
namespace K44
open PySem PySem.Spec PyProof.Rows L2 Evl
section
variable {K : PySem.W.Frag} {σ : L2.St} {H H' : Hp} {te ta : TE}
theorem ev_all {bs : List Bool} (h : EvL te σ H (bs.map V.bl)) : Ev (tCB (rAll K) (tCons te tNil)) σ H (.bl (bs.all id)) := fun H1 e Q q => h H1 e _ fun p H2 _ e2 hp => ⟨p, bs, rfl, sq_of hp, q H2 e2⟩
theorem ev_anyL {bs : List Bool} (h : EvL te σ H (bs.map V.bl)) : Ev (tCB (rAny K) (tCons te tNil)) σ H (.bl (bs.any id)) := fun H1 e Q q => h H1 e _ fun p H2 _ e2 hp => ⟨p, bs, rfl, sq_of hp, q H2 e2⟩
theorem rMaxD_is {a : Addr} {ns : List Int} {Q : VK} (h : SqL K H a (ns.map V.int)) (q : Q (.int (maxD ns)) H) : rMaxD K [.ref a] [.int 0] H Q := ⟨a, ns, 0, rfl, rfl, h, fun e => by rw [e] at q; exact q, fun m hm hl => by rw [maxD_of hm hl]; exact q⟩
theorem ev_maxN {ns : List Int} (h : EvL te σ H (ns.map V.int)) : Ev (tCKw (rMaxD K) (tCons te tNil) (tCons (tC (.int 0)) tNil)) σ H (.int (maxD ns)) := fun H1 e Q q => h H1 e _ fun p H2 _ e2 hp => rMaxD_is (sq_of hp) (q H2 e2)
theorem ev_maxL {a : Addr} {ns : List Int} (h : Ev te σ H (.ref a)) (hs : SqL K H a (ns.map V.int)) : Ev (tCKw (rMaxD K) (tCons te tNil) (tCons (tC (.int 0)) tNil)) σ H (.int (maxD ns)) := fun H1 e Q q => h H1 e _ fun H2 e2 => rMaxD_is (ex_l (e.trans e2) hs) (q H2 e2)
theorem flat_strs (l : List Str) : (l.map V.str).all flatV = true := by
  rw [List.all_eq_true]
  intro v h
  obtain ⟨x, _, rfl⟩ := List.mem_map.mp h
  rfl
theorem inV_str (x : Str) (l : List Str) : inV (.str x) (l.map V.str) = decide (x ∈ l) := by
  unfold inV
  rw [Bool.eq_iff_iff, List.any_eq_true, decide_eq_true_eq]
  constructor
  · rintro ⟨v, h, e⟩
    obtain ⟨y, hy, rfl⟩ := List.mem_map.mp h
    have : y = x := by
      have e : (y == x) = true := e
      exact eq_of_beq e
    rw [← this]
    exact hy
  · intro h
    refine ⟨.str x, List.mem_map.mpr ⟨x, h, rfl⟩, ?_⟩
    show (x == x) = true
    exact beq_self_eq_true x
theorem all_map {α : Type} (l : List α) (f : α → Bool) : (l.map f).all id = l.all f := by
  induction l with
  | nil => rfl
  | cons a r ih => rw [List.map_cons, List.all_cons, List.all_cons, ih]; rfl
theorem find_none_of {α : Type} {p : α → Bool} {l : List α} (h : ∀ x ∈ l, p x = false) : l.find? p = none := List.find?_eq_none.mpr fun x hx => by rw [h x hx]; decide
theorem find_at {α : Type} {p : α → Bool} : ∀ {l : List α} {i : Nat} {x : α}, l[i]? = some x → p x = true → (∀ y ∈ l.take i, p y = false) → l.find? p = some x
  | a :: r, 0, x, h, hp, _ => by
    have : a = x := by simpa using h
    subst this
    exact List.find?_cons_of_pos hp
  | a :: r, i + 1, x, h, hp, hn => by
    rw [List.find?_cons_of_neg (by rw [hn a (by rw [List.take_succ_cons]; exact List.mem_cons_self)]; decide)]
    exact find_at (i := i) (by simpa using h) hp fun y hy => hn y (by rw [List.take_succ_cons]; exact List.mem_cons_of_mem _ hy)
theorem given_all {α : Type} (ls : List α) (v : Nat → V) (F : α → V) (h : ∀ i a, ls[i]? = some a → v i = F a) : given ls.length (fun _ => true) v = ls.map F := by
  rw [← List.filterMap_eq_map]
  exact given_fm ls _ _ _ fun i a ha => ⟨rfl, fun y hy => by rw [h i a ha]; exact Option.some.inj hy⟩
def spOrder (K : PySem.W.Frag) : Sp := fun vs H Q _ => ∃ a b nds ls, vs = [.ref a, .ref b] ∧ Nodes K H a nds ∧ Lines K H b ls ∧ RetL ((order (nds.map (·.1)) ls).map V.str) H Q
end
section
variable {P : Program} {w : World} {K : PySem.W.Frag} {mg : Str → Option Value} {base : Heap}
theorem ok_order (T : Tx K mg) : FnOk P w K mg base CX0 2 T.f_order T.d_order ["nodes", "lines"] (spOrder K) := by
  refine T.t_order.F.ok sc_order (fun vs H Q E h => ?_) (fun cdv A outer s H vs Q E hr h => ?_)
  · obtain ⟨a, b, nds, ls, rfl, _⟩ := h
    rfl
  obtain ⟨a, b, nds, ls, rfl, hN, hL, q⟩ := h
  refine ⟨_, (pss_cons (ps_set (i := 2) sc_order.nd rfl (.inl rfl) (pe_call (ok_names T) (hr.mono (by decide)) (by rfl) T.t_names.g T.t_names.F.kp T.t_names.b .nil pass0 (pa_cons (pv 0) pa_nil)))
      (pss_cons (ps_set (i := 3) sc_order.nd rfl (.inr rfl) (pe_lst pa_nil))
      (pss_cons (ps_for PassesOwn.never rfl (pi_range1 (by rfl) T.B.range (pa_cons (pe_callB call_len_seq (by rfl) T.B.len PySem.boot_len (pa_cons (pv 2) pa_nil)) pa_nil)) (pg_name (i := 4) sc_order.nd rfl (.inl rfl))
        (pss_one (ps_for PassesOwn.never rfl (pi_list (pv 2)) (pg_name (i := 5) sc_order.nd rfl (.inl rfl))
          (pss_one (ps_if (PW.pt (pw_and (pt_cmpR (r := rIn K true) op_notIn_seq (pv 5) (pv 3) (by rfl)) (pw_and1 (pt_val (pe_callB (cr_all rfl) (by rfl) T.B.all (by decide +kernel) (pa_cons (pe_lc (own := [("other", 6)]) (g := gName 6) rfl sc_order.nd (pi_list (pe_call (ok_inputs T) (hr.mono (by decide)) (by rfl) T.t_inputs.g T.t_inputs.F.kp T.t_inputs.b .nil pass0 (pa_cons (pv 1) (pa_cons (pv 5) pa_nil)))) (blkOk_by (N := N_order) (sc := defScope s_order) (by decide +kernel)) (fun _ _ _ _ _ => pg_name (i := 6) sc_order.nd rfl (.inl rfl)) (fun _ _ _ _ _ => pts_nil) (fun _ _ _ _ _ => (pe_cmpR (r := rIn K false) op_in_seq (pv 6) (pv 3) (by rfl)))) pa_nil)))))) (pss_cons (ps_expr (pe_bm PySem.F.plainAttrs_list PySem.F.slot_list_append PySem.F.type_list_append mt_append (pv 3) (pa_cons (pv 5) pa_nil)))
            (pss_one ps_break)) pss_nil)))))
      (pss_one (ps_ret (pv 3)))))), ?_⟩
  generalize hnm : nds.map (·.1) = names at q
  have hz : names.length ≤ 1000 := by rw [← hnm, List.length_map]; exact hN.1
  have hnV : (nds.map fun d => V.str d.1) = names.map V.str := by rw [← hnm, List.map_map]; rfl
  -- names = names_of(nodes)
  refine q_asgL (el_call (ea_cons (ev_var rfl) ea_nil) fun H1 e1 Q q E => ⟨a, nds, rfl, hN.ex e1, fun p H2 hp e2 h2 => q p H2 hp e2 h2⟩) fun p H1 _ e1 hp => ?_
  rw [hnV] at hp
  -- placed = []
  refine q_asgL (el_lst ea_nil (by show (0 : Nat) ≤ 100000; omega)) fun o H2 ho e2 hoo => ?_
  -- the rounds
  refine q_forR1 (n := (names.length : Int)) (ea_cons (ev_is (ev_len (ev_var rfl) (sq_of (e2 p _ hp))) (by rw [List.length_map])) ea_nil) (by omega)
    (fun i σ' H' => ∃ y4 y5, σ' = [some (.ref a), some (.ref b), some (.ref p), some (.ref o), y4, y5, none] ∧ Ex H1 H' ∧ H' o = some (.lst ((orderN names ls i).map V.str)))
    (fun H3 e3 => ⟨none, none, rfl, e2.trans e3, e3 o _ hoo⟩) (fun i σ' H3 hi h => ?_) (fun σ' H3 h => ?_)
  · obtain ⟨y4, y5, rfl, e3, h3⟩ := h
    have hlen := len_orderN (names := names) (ls := ls) i
    refine s_forLn (xs := names.map V.str) (ev_var rfl) (sq_of (e3 p _ hp)) (fun j σ' H' => ∃ y5, σ' = [some (.ref a), some (.ref b), some (.ref p), some (.ref o), some (.int i), y5, none] ∧ Ex H1 H' ∧ H' o = some (.lst ((orderN names ls i).map V.str)) ∧ ∀ x ∈ names.take j, ready ls (orderN names ls i) x = false)
      (fun H4 e4 => ⟨y5, rfl, e3.trans e4, e4 o _ h3, by simp⟩) (fun j σ' H' _ h => ?_) (fun j v σ' H4 hv h => ?_) (fun σ' H4 h => ?_)
    · obtain ⟨_, _, e, _⟩ := h
      exact sq_of (e p _ hp)
    · obtain ⟨y5', rfl, e4, h4, hno⟩ := h
      obtain ⟨x, hx, rfl⟩ : ∃ x, names[j]? = some x ∧ v = .str x := by
        rw [List.getElem?_map] at hv
        cases e : names[j]? with
        | none => rw [e] at hv; cases hv
        | some x => rw [e] at hv; exact ⟨x, rfl, (Option.some.inj hv).symm⟩
      refine s_when (b := ready ls (orderN names ls i) x) (et_is (et_and (et_test (ev_op (ev_var rfl) (ev_var rfl) (rv_niL (sq_of h4) rfl (flat_strs _)))) fun _ => et_B (ev_all (bs := (ins ls x).map fun y => decide (y ∈ orderN names ls i)) (el_is (el_lcNL (xs := (ins ls x).map V.str) (fun _ => true) (fun k => match (ins ls x)[k]? with | some y => .bl (decide (y ∈ orderN names ls i)) | none => .non) (el_call (ea_cons (ev_var rfl) (ea_cons (ev_var rfl) ea_nil)) fun H5 e5 Q q E => ⟨b, ls, x, rfl, hL.ex ((e1.trans e4).trans e5), fun p H6 hp e6 h6 => q p H6 hp e6 h6⟩) ?_ (fun _ => rfl) (fun k v H5 e5 hv => ?_) (fun k v H5 e5 hv _ => ?_)) ?_))) ?_) (fun hb H5 e5 => ?_) (fun hb H5 e5 => ?_)
      · rw [List.length_map]
        unfold ins
        exact Nat.le_trans (List.length_filterMap_le _ _) (Nat.le_trans hL.1 (by omega))
      · exact fun H6 e6 Q q => q H6 (Ex.refl H6)
      · obtain ⟨y, hy, rfl⟩ : ∃ y, (ins ls x)[k]? = some y ∧ v = .str y := by
          rw [List.getElem?_map] at hv
          cases e : (ins ls x)[k]? with
          | none => rw [e] at hv; cases hv
          | some y => rw [e] at hv; exact ⟨y, rfl, (Option.some.inj hv).symm⟩
        rw [hy]
        exact ev_is (ev_op (ev_var rfl) (ev_var rfl) (rv_isL (sq_of (e5 o _ h4)) rfl (flat_strs _))) (by rw [inV_str])
      · rw [List.length_map, List.map_map]
        exact given_all (ins ls x) _ _ fun k y hy => by rw [hy]; rfl
      · rw [inV_str, all_map]; rfl
      · -- placed.append(name); break
        refine q_app (e5 o _ h4) (ev_var rfl) (ev_var rfl) (by rw [List.length_map]; omega) fun H6 e6 => ?_
        refine ⟨_, _, rfl, Ex.mut ((e4.trans e5).trans e6) ho, ?_⟩
        rw [upd_same]
        show some (HO.lst ((orderN names ls i).map V.str ++ [V.str x])) = some (HO.lst ((step names ls (orderN names ls i)).map V.str))
        unfold step
        rw [find_at hx hb hno, List.map_append]
        rfl
      · refine ⟨_, rfl, e4.trans e5, e5 o _ h4, fun y hy => ?_⟩
        rw [List.take_add_one, hx] at hy
        rcases List.mem_append.mp hy with hy | hy
        · exact hno y hy
        · rw [List.mem_singleton.mp hy]; exact hb
    · obtain ⟨y5', rfl, e4, h4, hno⟩ := h
      refine ⟨_, _, rfl, e4, ?_⟩
      rw [h4]
      show some (HO.lst ((orderN names ls i).map V.str)) = some (HO.lst ((step names ls (orderN names ls i)).map V.str))
      unfold step
      rw [List.length_map, List.take_length] at hno
      rw [find_none_of hno]
  · obtain ⟨y4, y5, rfl, e3, h3⟩ := h
    refine s_ret (ev_var rfl) fun H4 e4 => q o H4 (fresh_back e1 ho) ((e1.trans e3).trans e4) ?_
    rw [e4 o _ h3]
    rfl
end
end K44
/-! K44Net3: arrivals, made_up. -/
namespace K44
open PySem PySem.Spec PyProof.Rows L2 Evl
section
variable {K : PySem.W.Frag} {σ : L2.St} {H H' : Hp} {te td ty tv : TE} {D : Ends} {tz : TS}
/-- a new dict -/
def EvD (te : TE) (σ : L2.St) (H : Hp) (kvs : List (Key × V)) : Prop := ∀ H1, Ex H H1 → ∀ Q : VK, (∀ p H2, H1 p = none → Ex H1 H2 → H2 p = some (.dK kvs) → Q (.ref p) H2) → te σ H1 Q
def RetD (kvs : List (Key × V)) (H : Hp) (Q : VK) : Prop := ∀ p H2, H p = none → Ex H H2 → H2 p = some (.dK kvs) → Q (.ref p) H2
theorem ed_call {sp : Sp} {dvs vs : List V} {kvs : List (Key × V)} {E : XK} {ta : TA} (h : EvA ta σ H vs) (hs : ∀ H1, Ex H H1 → ∀ Q : VK, (∀ p H2, H1 p = none → Ex H1 H2 → H2 p = some (.dK kvs) → Q (.ref p) H2) → ∀ E : XK, sp (vs ++ dvs) H1 Q E) : EvD (tCall sp dvs E ta) σ H kvs := fun H1 e Q q =>
  h H1 e _ fun H2 e2 => hs H2 (e.trans e2) Q (fun p H3 hp e3 h3 => q p H3 (fresh_back e2 hp) (e2.trans e3) h3) E
theorem q_asgD {i : Nat} {kvs : List (Key × V)} (h : EvD te σ H kvs) (k : ∀ p H1, H p = none → Ex H H1 → H1 p = some (.dK kvs) → tz D (σ.set i (some (.ref p))) H1) : tSeq (tAsg te (gName i)) tz D σ H := h H (Ex.refl H) _ fun p H1 hp e h1 => k p H1 hp e h1
theorem ed_new : EvD tDNewK σ H [] := fun H1 _ Q q => fun p hp => q p _ hp (Ex.new hp) upd_same
theorem s_dput {d : Addr} {kvs : List (Key × V)} {x : Str} {v : V} (hd : H d = some (.dK kvs)) (hl : kvs.length < 100000) (hv : Ev tv σ H v) (ho : Ev td σ H (.ref d)) (hy : Ev ty σ H (.str x)) (k : ∀ H1, Ex H H1 → D.nx σ (upd H1 d (.dK (putK kvs (Sum.inr x) v)))) : sDPut td ty tv D σ H :=
  hv H (Ex.refl H) _ fun H1 e1 => ho H1 e1 _ fun H2 e2 => hy H2 (e1.trans e2) _ fun H3 e3 => ⟨d, _, rfl, DPut.k (k := Sum.inr x) (((e1.trans e2).trans e3) d _ hd) (sz_lt hl), k H3 ((e1.trans e2).trans e3)⟩
theorem q_dput {d : Addr} {kvs : List (Key × V)} {x : Str} {v : V} (hd : H d = some (.dK kvs)) (hl : kvs.length < 100000) (hv : Ev tv σ H v) (ho : Ev td σ H (.ref d)) (hy : Ev ty σ H (.str x)) (k : ∀ H1, Ex H H1 → tz D σ (upd H1 d (.dK (putK kvs (Sum.inr x) v)))) : tSeq (sDPut td ty tv) tz D σ H := s_dput (D := { D with nx := tz D }) hd hl hv ho hy k
theorem strs_at {l : List Str} {i : Nat} {v : V} (h : (l.map V.str)[i]? = some v) : ∃ x, l[i]? = some x ∧ v = .str x := by
  rw [List.getElem?_map] at h
  cases e : l[i]? with
  | none => rw [e] at h; cases h
  | some x => rw [e] at h; exact ⟨x, rfl, (Option.some.inj h).symm⟩
theorem ints_at {l : List Int} {i : Nat} {v : V} (h : (l.map V.int)[i]? = some v) : ∃ x, l[i]? = some x ∧ v = .int x := by
  rw [List.getElem?_map] at h
  cases e : l[i]? with
  | none => rw [e] at h; cases h
  | some x => rw [e] at h; exact ⟨x, rfl, (Option.some.inj h).symm⟩
theorem ins_len {ls : List (Str × Str)} {x : Str} (h : ls.length ≤ 1000) : (ins ls x).length ≤ 1000 := by
  unfold ins
  exact Nat.le_trans (List.length_filterMap_le _ _) h
theorem order_len {names : List Str} {ls : List (Str × Str)} (h : names.length ≤ 1000) : (order names ls).length ≤ 1000 := Nat.le_trans (len_orderN _) h
theorem sub_order {names : List Str} {ls : List (Str × Str)} {x : Str} (h : x ∈ order names ls) : x ∈ names := sub_orderN _ x h
theorem put_next {A : Str → Int} {o : List Str} {i : Nat} {x : Str} (hx : o[i]? = some x) (hn : x ∉ o.take i) : putK (dOf A (o.take i)) (Sum.inr x) (V.int (A x)) = dOf A (o.take (i + 1)) := by
  rw [putK_new _ (val_dOf_none hn), List.take_add_one, hx]
  exact (dOf_snoc A _ x).symm
theorem ev_leaves {sp : Sp} {E : XK} {t0 t1 t2 : TE} {a d : Addr} {nds : List (Str × Int)} {kvs : List (Key × V)} {x : Str} {z : Int} (h0 : Ev t0 σ H (.ref a)) (h1 : Ev t1 σ H (.ref d)) (h2 : Ev t2 σ H (.str x)) (hN : Nodes K H a nds) (hx : x ∈ nds.map (·.1)) (hd : H d = some (.dK kvs)) (hv : valV kvs (Sum.inr x) = some (.int z)) :
    Ev (tCall (spLeaves K) [] E (tCons t0 (tCons t1 (tCons t2 tNil)))) σ H (.int (z + latIn nds x)) :=
  ev_call (ea_cons h0 (ea_cons h1 (ea_cons h2 ea_nil))) fun H1 e1 Q q E => ⟨a, d, nds, kvs, x, z, rfl, hN.ex e1, hx, e1 d _ hd, hv, fun H2 e2 => q H2 e2⟩
theorem el_order {E : XK} {t0 t1 : TE} {a b : Addr} {nds : List (Str × Int)} {ls : List (Str × Str)} {o : List Str} (ho : order (nds.map (·.1)) ls = o) (h0 : Ev t0 σ H (.ref a)) (h1 : Ev t1 σ H (.ref b)) (hN : Nodes K H a nds) (hL : Lines K H b ls) :
    EvL (tCall (spOrder K) [] E (tCons t0 (tCons t1 tNil))) σ H (o.map V.str) := by
  subst ho
  exact el_call (ea_cons h0 (ea_cons h1 ea_nil)) fun H1 e1 Q q E => ⟨a, b, nds, ls, rfl, hN.ex e1, hL.ex e1, fun p H2 hp e2 h2 => q p H2 hp e2 h2⟩
theorem el_inputs {E : XK} {t0 t1 : TE} {b : Addr} {x : Str} {ls : List (Str × Str)} (h0 : Ev t0 σ H (.ref b)) (h1 : Ev t1 σ H (.str x)) (hL : Lines K H b ls) :
    EvL (tCall (spInputs K) [] E (tCons t0 (tCons t1 tNil))) σ H ((ins ls x).map V.str) :=
  el_call (ea_cons h0 (ea_cons h1 ea_nil)) fun H1 e1 Q q E => ⟨b, ls, x, rfl, hL.ex e1, fun p H2 hp e2 h2 => q p H2 hp e2 h2⟩
abbrev ordOf (nds : List (Str × Int)) (ls : List (Str × Str)) : List Str := order (nds.map (·.1)) ls
def spArr (K : PySem.W.Frag) : Sp := fun vs H Q _ => ∃ a b nds ls A, vs = [.ref a, .ref b] ∧ Nodes K H a nds ∧ Lines K H b ls ∧ IsArr (latIn nds) ls (ordOf nds ls) A ∧ RetD (dOf A (ordOf nds ls)) H Q
def spMade (K : PySem.W.Frag) : Sp := fun vs H Q _ => ∃ a b nds ls A, vs = [.ref a, .ref b] ∧ Nodes K H a nds ∧ Lines K H b ls ∧ IsArr (latIn nds) ls (ordOf nds ls) A ∧ (∀ l ∈ ls, l.1 ∈ ordOf nds ls ∧ l.2 ∈ ordOf nds ls) ∧ RetL ((diffs (latIn nds) ls A).map V.int) H Q
end
section
variable {P : Program} {w : World} {K : PySem.W.Frag} {mg : Str → Option Value} {base : Heap}
theorem ok_arr (T : Tx K mg) : FnOk P w K mg base CX0 3 T.f_arr T.d_arr ["nodes", "lines"] (spArr K) := by
  refine T.t_arr.F.ok sc_arr (fun vs H Q E h => ?_) (fun cdv A outer s H vs Q E hr h => ?_)
  · obtain ⟨a, b, nds, ls, A, rfl, _⟩ := h
    rfl
  obtain ⟨a, b, nds, ls, A, rfl, hN, hL, hA, q⟩ := h
  refine ⟨_, (pss_cons (ps_set (i := 2) sc_arr.nd rfl (.inr rfl) pe_dnewK)
      (pss_cons (ps_for PassesOwn.never rfl (pi_list (pe_call (ok_order T) (hr.mono (by decide)) (by rfl) T.t_order.g T.t_order.F.kp T.t_order.b .nil pass0 (pa_cons (pv 0) (pa_cons (pv 1) pa_nil)))) (pg_name (i := 3) sc_arr.nd rfl (.inl rfl))
        (pss_one (ps_dput (hu_of hr) (pv 2) (pv 3) (pe_callBK (cr_maxD (hu2_of hr) rfl) (by rfl) T.B.max (by decide +kernel) (pa_cons (pe_lc (own := [("other", 4)]) (g := gName 4) rfl sc_arr.nd (pi_list (pe_call (ok_inputs T) (hr.mono (by decide)) (by rfl) T.t_inputs.g T.t_inputs.F.kp T.t_inputs.b .nil pass0 (pa_cons (pv 1) (pa_cons (pv 3) pa_nil)))) (blkOk_by (N := N_arr) (sc := defScope s_arr) (by decide +kernel)) (fun _ _ _ _ _ => pg_name (i := 4) sc_arr.nd rfl (.inl rfl)) (fun _ _ _ _ _ => pts_nil) (fun _ _ _ _ _ => (pe_call (ok_leaves T) (hr.mono (by decide)) (by rfl) T.t_leaves.g T.t_leaves.F.kp T.t_leaves.b .nil pass0 (pa_cons (pv 0) (pa_cons (pv 2) (pa_cons (pv 4) pa_nil)))))) pa_nil) (pk_cons pe_int pk_nil)) rfl)))
      (pss_one (ps_ret (pv 2))))), ?_⟩
  have ho : Ord ls (ordOf nds ls) := ord_order _ _
  have hsub : ∀ x ∈ ordOf nds ls, x ∈ nds.map (·.1) := fun x hx => sub_order hx
  have hlen : (ordOf nds ls).length ≤ 1000 := order_len (by rw [List.length_map]; exact hN.1)
  generalize hoe : ordOf nds ls = o at *
  refine q_asgD ed_new fun d H1 hd e1 hd1 => ?_
  refine q_forNLn (el_order hoe (ev_var rfl) (ev_var rfl) (hN.ex e1) (hL.ex e1)) (fun p i σ' H' => ∃ y, σ' = [some (.ref a), some (.ref b), some (.ref d), y, none] ∧ Ex H H' ∧ p ≠ d ∧ H' p = some (.lst (o.map V.str)) ∧ H' d = some (.dK (dOf A (o.take i))))
    (fun p H2 hp e2 h2 => ⟨none, rfl, e1.trans e2, (fun e => by rw [e, hd1] at hp; cases hp), h2, e2 d _ hd1⟩) (fun p i σ' H' _ h => ?_) (fun p i v σ' H' hv h => ?_) (fun p σ' H' h => ?_)
  · obtain ⟨_, _, _, _, hp, _⟩ := h
    exact sq_of hp
  · obtain ⟨y, rfl, e, hne, hp, hdd⟩ := h
    obtain ⟨x, hx, rfl⟩ := strs_at hv
    obtain ⟨hno, hin⟩ := ho.at i x hx
    have hxo : x ∈ o := List.mem_of_getElem? hx
    refine s_dput (v := .int (A x)) hdd (by rw [dOf_len, List.length_take]; omega) (ev_is (ev_maxN (ns := (ins ls x).map fun y => A y + latIn nds y) (el_is (el_lcNL (fun _ => true) (fun k => match (ins ls x)[k]? with | some y => .int (A y + latIn nds y) | none => .non) (el_inputs (ev_var rfl) (ev_var rfl) (hL.ex e)) (by rw [List.length_map]; have := ins_len (x := x) hL.1; omega) (fun _ => rfl) (fun k v H5 e5 hv => ?_) (fun k v H5 e5 hv _ => ?_)) ?_)) ?_) (ev_var rfl) (ev_var rfl) fun H2 e2 => ?_
    · exact fun H6 e6 Q q => q H6 (Ex.refl H6)
    · obtain ⟨z, hz, rfl⟩ := strs_at hv
      rw [hz]
      have hzi := hin z (List.mem_of_getElem? hz)
      exact ev_leaves (sp := spLeaves K) (ev_var rfl) (ev_var rfl) (ev_var rfl) (hN.ex (e.trans e5)) (hsub z (List.mem_of_mem_take hzi)) (e5 d _ hdd) (val_dOf hzi)
    · rw [List.length_map, List.map_map]
      exact given_all (ins ls x) _ _ fun k y hy => by rw [hy]; rfl
    · rw [hA x hxo]
    · refine ⟨_, rfl, Ex.mut (e.trans e2) hd, hne, ?_, ?_⟩
      · rw [upd_ne hne]; exact e2 p _ hp
      · rw [upd_same, put_next hx hno]
  · obtain ⟨y, rfl, e, hne, hp, hdd⟩ := h
    rw [List.length_map, List.take_length] at hdd
    exact s_ret (ev_var rfl) fun H2 e2 => q d H2 hd (e.trans e2) (e2 d _ hdd)
theorem ok_made (T : Tx K mg) : FnOk P w K mg base CX0 4 T.f_made T.d_made ["nodes", "lines"] (spMade K) := by
  refine T.t_made.F.ok sc_made (fun vs H Q E h => ?_) (fun cdv A outer s H vs Q E hr h => ?_)
  · obtain ⟨a, b, nds, ls, A, rfl, _⟩ := h
    rfl
  obtain ⟨a, b, nds, ls, A, rfl, hN, hL, hA, hin, q⟩ := h
  refine ⟨_, (pss_cons (ps_set (i := 2) sc_made.nd rfl (.inr rfl) (pe_call (ok_arr T) (hr.mono (by decide)) (by rfl) T.t_arr.g T.t_arr.F.kp T.t_arr.b .nil pass0 (pa_cons (pv 0) (pa_cons (pv 1) pa_nil))))
      (pss_one (ps_ret (pe_lc (own := [("line", 3)]) (g := gName 3) rfl sc_made.nd (pi_list (pv 1)) (blkOk_by (N := N_made) (sc := defScope s_made) (by decide +kernel)) (fun _ _ _ _ _ => pg_name (i := 3) sc_made.nd rfl (.inl rfl)) (fun _ _ _ _ _ => pts_nil) (fun _ _ _ _ _ => (pe_op op_sub (pe_dget (hu_of hr) (pv 2) (pe_ix (r := rIxT K) ix_tup (pv 3) pe_int (fun _ _ => rfl)) (fun _ _ => rfl)) (pe_call (ok_leaves T) (hr.mono (by decide)) (by rfl) T.t_leaves.g T.t_leaves.F.kp T.t_leaves.b .nil pass0 (pa_cons (pv 0) (pa_cons (pv 2) (pa_cons (pe_ix (r := rIxT K) ix_tup (pv 3) pe_int (fun _ _ => rfl)) pa_nil)))))))))), ?_⟩
  have hsub : ∀ x ∈ ordOf nds ls, x ∈ nds.map (·.1) := fun x hx => sub_order hx
  refine q_asgD (ed_call (ea_cons (ev_var rfl) (ea_cons (ev_var rfl) ea_nil)) fun H1 e1 Q q E => ⟨a, b, nds, ls, A, rfl, hN.ex e1, hL.ex e1, hA, fun p H2 hp e2 h2 => q p H2 hp e2 h2⟩) fun d H1 _ e1 hd => ?_
  obtain ⟨hz, ps, hS, hp⟩ := hL
  have hlen : ps.length = ls.length := Paired.length hp
  refine s_retL (el_is (el_lcL (f := fun _ => true) (v := fun i => match ls[i]? with | some l => .int (A l.2 - (A l.1 + latIn nds l.1)) | none => .non) (ev_var rfl) (ex_l e1 hS) (by omega) (fun _ => rfl) (fun i v H2 e2 hv => ?_) (fun i v H2 e2 hv _ => ?_)) ?_) fun p H2 hp2 e2 hl => q p H2 (fresh_back e1 hp2) (e1.trans e2) hl
  · exact fun H6 e6 Q q => q H6 (Ex.refl H6)
  · obtain ⟨l, hl, p, rfl, hn⟩ := paired_at hp hv
    have hn := ex_t (e1.trans e2) hn
    obtain ⟨h1, h2⟩ := hin l (List.mem_of_getElem? hl)
    rw [hl]
    exact ev_op (ev_dget (ev_var rfl) (ix1 rfl hn) (e2 d _ hd) (val_dOf h2)) (ev_leaves (sp := spLeaves K) (ev_var rfl) (ev_var rfl) (ix0 rfl hn) (hN.ex (e1.trans e2)) (hsub _ h1) (e2 d _ hd) (val_dOf h1)) rv_I0
  · rw [hlen]
    unfold diffs
    rw [List.map_map]
    exact given_all ls _ _ fun k l hl => by rw [hl]; rfl
end
end K44
/-! K44Net4: arrive_by. -/
namespace K44
open PySem PySem.Spec PyProof.Rows L2 Evl
/-! the least of a list -/
def minD : List Int → Int
  | [] => 0
  | [x] => x
  | x :: y :: r => min x (minD (y :: r))
theorem minD_le : ∀ {l : List Int} {x : Int}, x ∈ l → minD l ≤ x
  | [a], x, h => by simp at h; subst h; exact Int.le_refl _
  | a :: b :: r, x, h => by
    show min a (minD (b :: r)) ≤ x
    rcases List.mem_cons.mp h with e | h
    · subst e; omega
    · have := minD_le h
      omega
theorem minD_mem : ∀ {l : List Int}, l ≠ [] → minD l ∈ l
  | [], h => absurd rfl h
  | [a], _ => by simp [minD]
  | a :: b :: r, _ => by
    show min a (minD (b :: r)) ∈ a :: b :: r
    by_cases h : a ≤ minD (b :: r)
    · rw [Int.min_eq_left h]
      exact List.mem_cons_self
    · rw [Int.min_eq_right (by omega)]
      exact List.mem_cons_of_mem _ (minD_mem (by simp))
theorem minD_of {l : List Int} {m : Int} (h : m ∈ l) (hl : ∀ y ∈ l, m ≤ y) : m = minD l := by
  have h1 := minD_le h
  have h2 := hl _ (minD_mem (List.ne_nil_of_mem h))
  omega
/-- do two differ? -/
def apart (l : List Int) : Bool := decide (0 < (l.length : Int)) && decide (minD l < maxD l)
theorem apart_no {l : List Int} (h : apart l = false) : ∀ r ∈ l, ∀ s ∈ l, r = s := fun r hr s hs => by
  unfold apart at h
  have h0 : decide (0 < (l.length : Int)) = true := by
    have := List.length_pos_of_mem hr
    exact decide_eq_true (by omega)
  rw [h0, Bool.true_and] at h
  have h1 := of_decide_eq_false h
  have := minD_le hr
  have := minD_le hs
  have := le_maxD hr
  have := le_maxD hs
  omega
theorem apart_yes {l : List Int} (h : apart l = true) (hl : ∀ r ∈ l, ∀ s ∈ l, r = s) : False := by
  unfold apart at h
  obtain ⟨h0, h1⟩ := Bool.and_eq_true_iff.mp h
  have h0 := of_decide_eq_true h0
  have h1 := of_decide_eq_true h1
  have hne : l ≠ [] := fun e => by rw [e] at h0; simp at h0
  have := hl _ (minD_mem hne) _ (maxD_mem hne)
  omega
theorem reached_take_succ {lat : Str → Int} {zs : List ((Str × Str) × Int)} {B : Str → Int} {x : Str} {i : Nat} {z : (Str × Str) × Int} (h : zs[i]? = some z) :
    reached lat (zs.take (i + 1)) B x = reached lat (zs.take i) B x ++ (if z.1.2 = x then [B z.1.1 + lat z.1.1 + z.2] else []) := by
  unfold reached
  rw [List.take_add_one, h, List.filterMap_append]
  congr 1
  by_cases e : z.1.2 = x
  · simp [e]
  · simp [e]
section
variable {K : PySem.W.Frag} {σ : L2.St} {H H' : Hp} {te ta tb : TE} {D : Ends} {tz tu : TS}
theorem ev_min {a : Addr} {ns : List Int} (h : Ev te σ H (.ref a)) (hs : SqL K H a (ns.map V.int)) (h0 : 0 < ns.length) : Ev (tCB (rMin K) (tCons te tNil)) σ H (.int (minD ns)) := fun H1 e Q q => h H1 e _ fun H2 e2 => ⟨a, ns, rfl, ex_l (e.trans e2) hs, h0, fun m hm hl => by rw [minD_of hm hl]; exact q H2 e2⟩
theorem ev_max {a : Addr} {ns : List Int} (h : Ev te σ H (.ref a)) (hs : SqL K H a (ns.map V.int)) (h0 : 0 < ns.length) : Ev (tCB (rMax K) (tCons te tNil)) σ H (.int (maxD ns)) := fun H1 e Q q => h H1 e _ fun H2 e2 => ⟨a, ns, rfl, ex_l (e.trans e2) hs, h0, fun m hm hl => by rw [maxD_of hm hl]; exact q H2 e2⟩
/-- for x, y in zip(xs, ys) of two lists of one length, each pair a new tuple -/
theorem q_forZip {a b : Addr} {xs ys : List V} {i j : Nat} (ha : Ev ta σ H (.ref a)) (hb : Ev tb σ H (.ref b)) (hx : SqL K H a xs) (hy : SqL K H b ys) (hl : xs.length = ys.length) (Pv : Nat → L2.St → Hp → Prop) (h0 : ∀ H1, Ex H H1 → Pv 0 σ H1)
    (hq : ∀ k σ' H', Pv k σ' H' → SqL K H' a xs ∧ SqL K H' b ys)
    (hs : ∀ (k : Nat) (x y : V) (σ' : L2.St) (H' H2 : Hp), xs[k]? = some x → ys[k]? = some y → Pv k σ' H' → Ex H' H2 → tu { D with nx := Pv (k + 1), ct := Pv (k + 1), bk := tz D } ((σ'.set i (some x)).set j (some y)) H2)
    (hd : ∀ σ' H', Pv xs.length σ' H' → tz D σ' H') : tSeq (tFor (iZip K (tCons ta (tCons tb tNil))) (gTup K 2 (gCons (gName i) (gCons (gName j) gNil))) tu) tz D σ H :=
  ha H (Ex.refl H) _ fun H1 e1 => hb H1 e1 _ fun H2 e2 => ⟨a, b, xs, ys, rfl, ex_l (e1.trans e2) hx, ex_l (e1.trans e2) hy, RZ.for_zipL (D := { D with nx := tz D }) hl Pv (h0 H2 (e1.trans e2)) hq
    (fun k x y T σ' H' kx ky p hT => ⟨T, [x, y], rfl, .inl (.inl upd_same), rfl, x, [y], rfl, y, [], rfl, rfl, hs k x y σ' H' _ kx ky p (Ex.new hT)⟩) hd⟩
def Together (lat : Str → Int) (ls : List (Str × Str)) (ds : List Int) (o : List Str) (B : Str → Int) : Prop := (∀ d ∈ ds, 0 ≤ d) ∧ Meet lat (ls.zip ds) o B
def spBy (K : PySem.W.Frag) : Sp := fun vs H Q _ => ∃ a b c nds ls ds B, vs = [.ref a, .ref b, .ref c] ∧ Nodes K H a nds ∧ Lines K H b ls ∧ SqL K H c (ds.map V.int) ∧ ls.length = ds.length ∧ IsBy (latIn nds) (ls.zip ds) (ordOf nds ls) B ∧
  (¬ Together (latIn nds) ls ds (ordOf nds ls) B → RetV .non H Q) ∧ (Together (latIn nds) ls ds (ordOf nds ls) B → RetD (dOf B (ordOf nds ls)) H Q)
end
section
variable {P : Program} {w : World} {K : PySem.W.Frag} {mg : Str → Option Value} {base : Heap}
theorem ok_by (T : Tx K mg) : FnOk P w K mg base CX0 3 T.f_by T.d_by ["nodes", "lines", "delays"] (spBy K) := by
  refine T.t_by.F.ok sc_by (fun vs H Q E h => ?_) (fun cdv A outer s H vs Q E hr h => ?_)
  · obtain ⟨a, b, c, nds, ls, ds, B, rfl, _⟩ := h
    rfl
  obtain ⟨a, b, c, nds, ls, ds, B, rfl, hN, hL, hC, hlen, hB, q1, q2⟩ := h
  refine ⟨_, (pss_cons (ps_if (pt_val (pe_callB (cr_any rfl) (by rfl) T.B.any (by decide +kernel) (pa_cons (pe_lc (own := [("delay", 3)]) (g := gName 3) rfl sc_by.nd (pi_list (pv 2)) (blkOk_by (N := N_by) (sc := defScope s_by) (by decide +kernel)) (fun _ _ _ _ _ => pg_name (i := 3) sc_by.nd rfl (.inl rfl)) (fun _ _ _ _ _ => pts_nil) (fun _ _ _ _ _ => (pe_cmpR op_lt (pv 3) pe_int (nomark _)))) pa_nil))) (pss_one (ps_ret pe_non)) pss_nil)
      (pss_cons (ps_set (i := 4) sc_by.nd rfl (.inl rfl) pe_dnewK)
      (pss_cons (ps_for PassesOwn.never rfl (pi_list (pe_call (ok_order T) (hr.mono (by decide)) (by rfl) T.t_order.g T.t_order.F.kp T.t_order.b .nil pass0 (pa_cons (pv 0) (pa_cons (pv 1) pa_nil)))) (pg_name (i := 5) sc_by.nd rfl (.inl rfl))
        (pss_cons (ps_set (i := 6) sc_by.nd rfl (.inl rfl) (pe_lst pa_nil))
        (pss_cons (ps_for PassesOwn.never rfl (pi_zip (by rfl) T.B.zip (pa_cons (pv 1) (pa_cons (pv 2) pa_nil))) (pg_tup (by rfl) (pgs_cons (pg_name (i := 7) sc_by.nd rfl (.inl rfl)) (pgs_cons (pg_name (i := 3) sc_by.nd rfl (.inl rfl)) pgs_nil)))
          (pss_one (ps_if (pt_cmpR op_eq (pe_ix (r := rIxT K) ix_tup (pv 7) pe_int (fun _ _ => rfl)) (pv 5) (nomark _)) (pss_one (ps_expr (pe_bm PySem.F.plainAttrs_list PySem.F.slot_list_append PySem.F.type_list_append mt_append (pv 6) (pa_cons (pe_op op_add (pe_call (ok_leaves T) (hr.mono (by decide)) (by rfl) T.t_leaves.g T.t_leaves.F.kp T.t_leaves.b .nil pass0 (pa_cons (pv 0) (pa_cons (pv 4) (pa_cons (pe_ix (r := rIxT K) ix_tup (pv 7) pe_int (fun _ _ => rfl)) pa_nil)))) (pv 3)) pa_nil)))) pss_nil)))
        (pss_cons (ps_if (PW.pt (pw_and (pt_cmpR op_gt (pe_callB call_len_seq (by rfl) T.B.len PySem.boot_len (pa_cons (pv 6) pa_nil)) pe_int (nomark _)) (pw_and1 (pt_cmpR op_lt (pe_callB (cr_min rfl) (by rfl) T.B.min (by decide +kernel) (pa_cons (pv 6) pa_nil)) (pe_callB (cr_max rfl) (by rfl) T.B.max (by decide +kernel) (pa_cons (pv 6) pa_nil)) (nomark _))))) (pss_one (ps_ret pe_non)) pss_nil)
        (pss_one (ps_dput (hu_of hr) (pv 4) (pv 5) (pe_callBK (cr_maxD (hu2_of hr) rfl) (by rfl) T.B.max (by decide +kernel) (pa_cons (pv 6) pa_nil) (pk_cons pe_int pk_nil)) rfl))))))
      (pss_one (ps_ret (pv 4)))))), ?_⟩
  have ho : Ord ls (ordOf nds ls) := ord_order _ _
  have hsub : ∀ x ∈ ordOf nds ls, x ∈ nds.map (·.1) := fun x hx => sub_order hx
  have holen : (ordOf nds ls).length ≤ 1000 := order_len (by rw [List.length_map]; exact hN.1)
  generalize hoe : ordOf nds ls = o at *
  generalize hzs : ls.zip ds = zs at hB
  have hdl : ds.length ≤ 1000 := by rw [← hlen]; exact hL.1
  -- if any([delay < 0 ..]): return None
  refine q_when (b := (ds.map fun d => decide (d < 0)).any id) (et_B (ev_anyL (el_is (el_lcL (f := fun _ => true) (v := fun i => match ds[i]? with | some d => .bl (decide (d < 0)) | none => .non) (ev_var rfl) hC (by rw [List.length_map]; omega) (fun _ => rfl) (fun i v H2 e2 hv => ?_) (fun i v H2 e2 hv _ => ?_)) ?_))) (fun hb H1 e1 => ?_) (fun hb H1 e1 => ?_)
  · exact fun H6 e6 Q q => q H6 (Ex.refl H6)
  · obtain ⟨d, hd, rfl⟩ := ints_at hv
    rw [hd]
    exact ev_op (ev_var rfl) ev_c rv_I0
  · rw [List.length_map, List.map_map]
    exact given_all ds _ _ fun k d hd => by rw [hd]; rfl
  · refine s_ret ev_c fun H2 e2 => q1 (fun t => ?_) H2 (e1.trans e2)
    obtain ⟨v, hv, hvt⟩ := List.any_eq_true.mp hb
    obtain ⟨d, hd, rfl⟩ := List.mem_map.mp hv
    have h1 := of_decide_eq_true hvt
    have h2 := t.1 d hd
    omega
  have hpos : ∀ d ∈ ds, 0 ≤ d := fun d hd => by
    by_cases h : d < 0
    · have : (ds.map fun d => decide (d < 0)).any id = true := List.any_eq_true.mpr ⟨true, List.mem_map.mpr ⟨d, hd, decide_eq_true h⟩, rfl⟩
      rw [this] at hb
      cases hb
    · omega
  -- found = {}
  refine q_asgD ed_new fun d H2 hd e2 hd2 => ?_
  have e12 := e1.trans e2
  have hdH : H d = none := fresh_back e1 hd
  refine q_forNLn (el_order hoe (ev_var rfl) (ev_var rfl) (hN.ex e12) (hL.ex e12)) (fun p i σ' H' => ∃ y3 y5 y6 y7, σ' = [some (.ref a), some (.ref b), some (.ref c), y3, some (.ref d), y5, y6, y7] ∧ Ex H H' ∧ p ≠ d ∧ H' p = some (.lst (o.map V.str)) ∧ H' d = some (.dK (dOf B (o.take i))) ∧ Meet (latIn nds) zs (o.take i) B)
    (fun p H3 hp e3 h3 => ⟨none, none, none, none, rfl, e12.trans e3, (fun e => by rw [e, hd2] at hp; cases hp), h3, e3 d _ hd2, fun x hx => by simp at hx⟩) (fun p i σ' H' _ h => ?_) (fun p i v σ' H' hv h => ?_) (fun p σ' H' h => ?_)
  · obtain ⟨_, _, _, _, _, _, _, hp, _⟩ := h
    exact sq_of hp
  · obtain ⟨y3, y5, y6, y7, rfl, e, hne, hp, hdd, hM⟩ := h
    obtain ⟨x, hx, rfl⟩ := strs_at hv
    obtain ⟨hno, hin⟩ := ho.at i x hx
    have hxo : x ∈ o := List.mem_of_getElem? hx
    -- reached = []
    refine q_asgL (el_lst ea_nil (by show (0 : Nat) ≤ 100000; omega)) fun r H3 hr0 e3 hr3 => ?_
    have eH3 := e.trans e3
    obtain ⟨hz, ps, hS, hps⟩ := hL
    have hplen : ps.length = ls.length := Paired.length hps
    -- what comes over the lines
    refine q_forZip (ev_var rfl) (ev_var rfl) (ex_l eH3 hS) (ex_l eH3 hC) (by rw [List.length_map]; omega) (fun k σ' H4 => ∃ y3 y7, σ' = [some (.ref a), some (.ref b), some (.ref c), y3, some (.ref d), some (.str x), some (.ref r), y7] ∧ Ex H' H4 ∧ H4 r = some (.lst ((reached (latIn nds) (zs.take k) B x).map V.int)))
      (fun H4 e4 => ⟨_, _, rfl, e3.trans e4, e4 r _ hr3⟩) (fun k σ' H4 h => ?_) (fun k lv dv σ' H4 H5 hl hdv h e5 => ?_) (fun σ' H4 h => ?_)
    · obtain ⟨_, _, _, e4, _⟩ := h
      exact ⟨ex_l (e.trans e4) hS, ex_l (e.trans e4) hC⟩
    · obtain ⟨y3', y7', rfl, e4, h4⟩ := h
      obtain ⟨l, hl2, p2, rfl, hn⟩ := paired_at hps hl
      obtain ⟨dd, hd3, rfl⟩ := ints_at hdv
      have hn := ex_t ((e.trans e4).trans e5) hn
      have hzk : zs[k]? = some (l, dd) := by rw [← hzs, List.getElem?_zip_eq_some]; exact ⟨hl2, hd3⟩
      have hrt := reached_take_succ (lat := latIn nds) (B := B) (x := x) hzk
      have hlenr : (reached (latIn nds) (zs.take k) B x).length ≤ 1000 := by
        unfold reached
        refine Nat.le_trans (List.length_filterMap_le _ _) ?_
        rw [List.length_take, ← hzs, List.length_zip]
        omega
      refine s_when (b := decide (V.str l.2 = V.str x)) (et_test (ev_op (ix1 rfl hn) (ev_var rfl) (rv_eq rfl))) (fun hb5 H6 e6 => ?_) (fun hb5 H6 e6 => ?_)
      · have hlx := str_eq hb5
        have hin2 : l.1 ∈ o.take i := hin l.1 (mem_ins.mpr (by rw [← hlx]; exact List.mem_of_getElem? hl2))
        have e56 := e5.trans e6
        refine s_app (v := .int (B l.1 + latIn nds l.1 + dd)) (e56 r _ h4) (ev_var rfl) (ev_op (ev_leaves (sp := spLeaves K) (ev_var rfl) (ev_var rfl) (ix0 rfl (ex_t e6 hn)) (hN.ex ((e.trans e4).trans e56)) (hsub _ (List.mem_of_mem_take hin2)) ((e4.trans e56) d _ hdd) (val_dOf hin2)) (ev_var rfl) rv_I0) (by rw [List.length_map]; omega) fun H7 e7 => ?_
        refine ⟨_, _, rfl, Ex.mut ((e4.trans e56).trans e7) hr0, ?_⟩
        rw [upd_same, hrt, if_pos hlx, List.map_append]
        rfl
      · refine ⟨_, _, rfl, (e4.trans e5).trans e6, ?_⟩
        rw [(e5.trans e6) r _ h4, hrt, if_neg (str_ne hb5), List.append_nil]
    · obtain ⟨y3', y7', rfl, e4, h4⟩ := h
      have hk : zs.take ps.length = zs := List.take_of_length_le (by rw [← hzs, List.length_zip]; omega)
      rw [hk] at h4
      generalize hR : reached (latIn nds) zs B x = R at h4
      -- if they do not belong together: return None
      refine q_when (b := apart R) (et_and (et_test (ev_op (ev_is (ev_len (ev_var rfl) (sq_of h4)) (by rw [List.length_map])) ev_c rv_I0)) fun h0 => et_test (ev_op (ev_min (ev_var rfl) (sq_of h4) ?_) (ev_max (ev_var rfl) (sq_of h4) ?_) rv_I0)) (fun hb5 H5 e5 => ?_) (fun hb5 H5 e5 => ?_)
      · have := of_decide_eq_true h0
        omega
      · have := of_decide_eq_true h0
        omega
      · refine s_ret ev_c fun H6 e6 => q1 (fun t => ?_) H6 (((e.trans e4).trans e5).trans e6)
        have hM2 := t.2 x hxo
        rw [hzs, hR] at hM2
        exact apart_yes hb5 hM2
      · refine s_dput (v := .int (B x)) ((e4.trans e5) d _ hdd) (by rw [dOf_len, List.length_take]; omega) (ev_is (ev_maxL (ev_var rfl) (sq_of (e5 r _ h4))) (by rw [hB x hxo, hR])) (ev_var rfl) (ev_var rfl) fun H6 e6 => ?_
        have e46 := (e4.trans e5).trans e6
        refine ⟨_, _, _, _, rfl, Ex.mut (e.trans e46) hdH, hne, ?_, ?_, fun y hy => ?_⟩
        · rw [upd_ne hne]; exact e46 p _ hp
        · rw [upd_same, put_next hx hno]
        · rw [List.take_add_one, hx] at hy
          rcases List.mem_append.mp hy with hy | hy
          · exact hM y hy
          · rw [List.mem_singleton.mp hy, hR]
            exact apart_no hb5
  · obtain ⟨y3, y5, y6, y7, rfl, e, hne, hp, hdd, hM⟩ := h
    rw [List.length_map, List.take_length] at hdd hM
    exact s_ret (ev_var rfl) fun H3 e3 => q2 ⟨hpos, by rw [hzs]; exact hM⟩ d H3 hdH (e.trans e3) (e3 d _ hdd)
end
end K44
/-! K44Law1: the law's draws, sizes, names. -/
namespace K44
open PySem PySem.Spec PyProof.Rows L2 Evl
def cellAt (ns : List Int) (k : Int) : Int := (ns[((k / 4) % (ns.length : Int)).toNat]?).getD 0
def thou (c : Int) : Nat → Int
  | 0 => c
  | n + 1 => thou c n / 1000
def mix1 (c k : Int) : Int := (c * 48271 + k * 69621 + 12345) % 2147483647
def mix2 (c k : Int) : Int := (mix1 c k * mix1 c k + 16807 * k + 7) % 998244353
def mix3 (c k : Int) : Int := (mix2 c k * mix2 c k + 48271 * k + c) % 2147483629
def draw (ns : List Int) (k m : Int) : Int :=
  if (decide (V.int (ns.length : Int) = V.int 0)) = true then 0
  else if (decide (10 ^ (18 : Int).toNat ≤ cellAt ns k) && decide (k / 4 < (ns.length : Int))) = true then thou (cellAt ns k) (k % 4).toNat % 1000 % m
  else mix3 (cellAt ns k) k / 13 % m
theorem draw_lo (ns : List Int) (k : Int) {m : Int} (h : 0 < m) : 0 ≤ draw ns k m := by
  unfold draw
  split
  · exact Int.le_refl _
  · split
    · exact Int.emod_nonneg _ (by omega)
    · exact Int.emod_nonneg _ (by omega)
theorem draw_hi (ns : List Int) (k : Int) {m : Int} (h : 0 < m) : draw ns k m < m := by
  unfold draw
  split
  · exact h
  · split
    · exact Int.emod_lt_of_pos _ h
    · exact Int.emod_lt_of_pos _ h
def sizeM (ns : List Int) (k f m : Int) : Int := if decide (V.int (draw ns (k + 700) 8) = V.int 0) = true then 1 + draw ns k m else 1 + draw ns k f
def sfx : List Str := ["", "a", "zz", "bcdefgh"]
def pickS (l : List Str) (d : Int) : Str := (l[d.toNat]?).getD ""
def nameM (ns : List Int) (k : Int) (first : Str) : Str := first ++ pickS sfx (draw ns k 4)
section
variable {K : PySem.W.Frag} {σ : L2.St} {H H' : Hp} {te ta tb t0 t1 t2 t3 : TE} {D : Ends} {tz tu : TS} {a : Addr} {ns : List Int} {k m i : Int}
def rInt1 : List V → Hp → VK → Prop := fun xs H Q => (∃ i, xs = [.int i] ∧ Q (.int i) H) ∨ ∃ k, xs = [.bl k] ∧ Q (.int (if k then 1 else 0)) H
theorem ev_int1 (h : Ev te σ H (.int i)) : Ev (tCB rInt1 (tCons te tNil)) σ H (.int i) := fun H1 e Q q => h H1 e _ fun H2 e2 => .inl ⟨i, rfl, q H2 e2⟩
theorem ev_intB {b : Bool} (h : Ev te σ H (.bl b)) : Ev (tCB rInt1 (tCons te tNil)) σ H (.int (if b then 1 else 0)) := fun H1 e Q q => h H1 e _ fun H2 e2 => .inr ⟨b, rfl, q H2 e2⟩
def spDraw (K : PySem.W.Frag) : Sp := fun vs H Q _ => ∃ a ns k m, vs = [.ref a, .int k, .int m] ∧ SqL K H a (ns.map V.int) ∧ 0 < m ∧ RetV (.int (draw ns k m)) H Q
def spSize (K : PySem.W.Frag) : Sp := fun vs H Q _ => ∃ a ns k f m, vs = [.ref a, .int k, .int f, .int m] ∧ SqL K H a (ns.map V.int) ∧ 0 < f ∧ 0 < m ∧ RetV (.int (sizeM ns k f m)) H Q
def spName (K : PySem.W.Frag) : Sp := fun vs H Q _ => ∃ a ns k z, vs = [.ref a, .int k, .str z] ∧ SqL K H a (ns.map V.int) ∧ z.length ≤ 100 ∧ RetV (.str (nameM ns k z)) H Q
theorem ev_draw {E : XK} (h0 : Ev t0 σ H (.ref a)) (hS : SqL K H a (ns.map V.int)) (h1 : Ev t1 σ H (.int k)) (h2 : Ev t2 σ H (.int m)) (hm : 0 < m) : Ev (tCall (spDraw K) [] E (tCons t0 (tCons t1 (tCons t2 tNil)))) σ H (.int (draw ns k m)) :=
  ev_call (ea_cons h0 (ea_cons h1 (ea_cons h2 ea_nil))) fun H1 e1 Q q E => ⟨a, ns, k, m, rfl, ex_l e1 hS, hm, fun H2 e2 => q H2 e2⟩
theorem ev_size {E : XK} {f : Int} (h0 : Ev t0 σ H (.ref a)) (hS : SqL K H a (ns.map V.int)) (h1 : Ev t1 σ H (.int k)) (h2 : Ev t2 σ H (.int f)) (h3 : Ev t3 σ H (.int m)) (hf : 0 < f) (hm : 0 < m) : Ev (tCall (spSize K) [] E (tCons t0 (tCons t1 (tCons t2 (tCons t3 tNil))))) σ H (.int (sizeM ns k f m)) :=
  ev_call (ea_cons h0 (ea_cons h1 (ea_cons h2 (ea_cons h3 ea_nil)))) fun H1 e1 Q q E => ⟨a, ns, k, f, m, rfl, ex_l e1 hS, hf, hm, fun H2 e2 => q H2 e2⟩
theorem ev_name {E : XK} {z : Str} (h0 : Ev t0 σ H (.ref a)) (hS : SqL K H a (ns.map V.int)) (h1 : Ev t1 σ H (.int k)) (h2 : Ev t2 σ H (.str z)) (hz : z.length ≤ 100) : Ev (tCall (spName K) [] E (tCons t0 (tCons t1 (tCons t2 tNil)))) σ H (.str (nameM ns k z)) :=
  ev_call (ea_cons h0 (ea_cons h1 (ea_cons h2 ea_nil))) fun H1 e1 Q q E => ⟨a, ns, k, z, rfl, ex_l e1 hS, hz, fun H2 e2 => q H2 e2⟩
/-- an item of a written list, at a place that lies in it -/
theorem ev_pick {ta : TA} {xs : List V} {v : V} {d : Int} (h : EvA ta σ H xs) (hd : Ev tb σ H (.int d)) (hl : xs.length ≤ 100000) (hx : atI xs d = some v) : Ev (tOp (rIxL K) (tLst ta) tb) σ H v :=
  ev_opL1 (el_lst h hl) (fun H1 e1 => Ev.mono e1 hd) fun p H1 hp _ => rv_ixL (sq_of hp) hx
theorem at_strs {l : List Str} {d : Int} (h0 : 0 ≤ d) (h1 : d < (l.length : Int)) : atI (l.map V.str) d = some (.str (pickS l d)) := by
  refine at_of (j := d.toNat) (by omega) ?_
  have hlt : d.toNat < l.length := by omega
  unfold pickS
  rw [List.getElem?_map, List.getElem?_eq_getElem hlt]
  rfl
theorem pickS_mem {l : List Str} {d : Int} (h0 : 0 ≤ d) (h1 : d < (l.length : Int)) : pickS l d ∈ l := by
  have hlt : d.toNat < l.length := by omega
  unfold pickS
  rw [List.getElem?_eq_getElem hlt]
  exact List.getElem_mem hlt
theorem at_ints {l : List Int} {d : Int} (h0 : 0 ≤ d) (h1 : d < (l.length : Int)) : ∃ i, atI (l.map V.int) d = some (.int i) := by
  have hlt : d.toNat < l.length := by omega
  refine ⟨l[d.toNat], at_of (j := d.toNat) (by omega) ?_⟩
  rw [List.getElem?_map, List.getElem?_eq_getElem hlt]
  rfl
end
section
variable {P : Program} {w : World} {K : PySem.W.Frag} {mg : Str → Option Value} {base : Heap}
theorem ok_draw (T : Tx K mg) : FnOk P w K mg base CX0 1 T.f_draw T.d_draw ["_law_script", "_law_k", "_law_below"] (spDraw K) := by
  refine T.t_draw.F.ok sc_draw (fun vs H Q E h => ?_) (fun cdv A outer s H vs Q E hr h => ?_)
  · obtain ⟨a, ns, k, m, rfl, _⟩ := h
    rfl
  obtain ⟨a, ns, k, m, rfl, hS, hm, q⟩ := h
  refine ⟨_, (pss_cons (ps_if (pt_cmpR op_eq (pe_callB call_len_seq (by rfl) T.B.len PySem.boot_len (pa_cons (pv 0) pa_nil)) pe_int (nomark _)) (pss_one (ps_ret pe_int)) pss_nil)
      (pss_cons (ps_set (i := 3) sc_draw.nd rfl (.inl rfl) (pe_callTy call_int1 (by rfl) T.B.int (by decide +kernel) (pa_cons (pe_ix (r := rIxL K) ix_list (pv 0) (pe_op op_mod (pe_callTy call_int1 (by rfl) T.B.int (by decide +kernel) (pa_cons (pe_op op_fdiv (pv 1) pe_int) pa_nil)) (pe_callB call_len_seq (by rfl) T.B.len PySem.boot_len (pa_cons (pv 0) pa_nil))) (fun _ _ => rfl)) pa_nil)))
      (pss_cons (ps_if (PW.pt (pw_and (pt_cmpR op_ge (pv 3) (pe_op op_pow pe_int pe_int) (nomark _)) (pw_and1 (pt_cmpR op_lt (pe_op op_fdiv (pv 1) pe_int) (pe_callB call_len_seq (by rfl) T.B.len PySem.boot_len (pa_cons (pv 0) pa_nil)) (nomark _))))) (pss_cons (ps_for PassesOwn.never rfl (pi_range1 (by rfl) T.B.range (pa_cons (pe_op op_mod (pe_callTy call_int1 (by rfl) T.B.int (by decide +kernel) (pa_cons (pv 1) pa_nil)) pe_int) pa_nil)) (pg_name (i := 4) sc_draw.nd rfl (.inl rfl))
          (pss_one (ps_set (i := 3) sc_draw.nd rfl (.inl rfl) (pe_op op_fdiv (pv 3) pe_int))))
        (pss_one (ps_ret (pe_op op_mod (pe_op op_mod (pe_callTy call_int1 (by rfl) T.B.int (by decide +kernel) (pa_cons (pv 3) pa_nil)) pe_int) (pv 2))))) pss_nil)
      (pss_cons (ps_set (i := 5) sc_draw.nd rfl (.inl rfl) (pe_op op_mod (pe_callTy call_int1 (by rfl) T.B.int (by decide +kernel) (pa_cons (pe_op op_add (pe_op op_add (pe_op op_mul (pv 3) pe_int) (pe_op op_mul (pv 1) pe_int)) pe_int) pa_nil)) pe_int))
      (pss_cons (ps_set (i := 5) sc_draw.nd rfl (.inl rfl) (pe_op op_mod (pe_callTy call_int1 (by rfl) T.B.int (by decide +kernel) (pa_cons (pe_op op_add (pe_op op_add (pe_op op_mul (pv 5) (pv 5)) (pe_op op_mul pe_int (pv 1))) pe_int) pa_nil)) pe_int))
      (pss_cons (ps_set (i := 5) sc_draw.nd rfl (.inl rfl) (pe_op op_mod (pe_callTy call_int1 (by rfl) T.B.int (by decide +kernel) (pa_cons (pe_op op_add (pe_op op_add (pe_op op_mul (pv 5) (pv 5)) (pe_op op_mul pe_int (pv 1))) (pv 3)) pa_nil)) pe_int))
      (pss_one (ps_ret (pe_op op_mod (pe_op op_fdiv (pv 5) pe_int) (pv 2)))))))))), ?_⟩
  have len : ∀ {σ : L2.St} {H1 : Hp}, Ex H H1 → σ[0]? = some (some (.ref a)) → Ev (tCB (rLenS K) (tCons (tVar 0) tNil)) σ H1 (.int (ns.length : Int)) := fun e h0 => ev_is (ev_len (ev_var h0) (ex_l e hS)) (by rw [List.length_map])
  refine q_when (b := decide (V.int (ns.length : Int) = V.int 0)) (et_test (ev_op (len (Ex.refl H) rfl) ev_c (rv_eq rfl))) (fun hb H1 e1 => ?_) (fun hb H1 e1 => ?_)
  · refine s_ret ev_c fun H2 e2 => ?_
    have := q H2 (e1.trans e2)
    unfold draw at this
    rw [if_pos hb] at this
    exact this
  have hne : 0 < (ns.length : Int) := by
    have : ¬ (V.int (ns.length : Int) = V.int 0) := of_decide_eq_false hb
    have : ¬ ((ns.length : Int) = 0) := fun e => this (by rw [e])
    omega
  have hix : atI (ns.map V.int) ((k / 4) % (ns.length : Int)) = some (.int (cellAt ns k)) := by
    have h1 := Int.emod_nonneg (k / 4) (b := (ns.length : Int)) (by omega)
    have h2 := Int.emod_lt_of_pos (k / 4) hne
    refine at_of (j := ((k / 4) % (ns.length : Int)).toNat) (by omega) ?_
    have hlt : ((k / 4) % (ns.length : Int)).toNat < ns.length := by omega
    unfold cellAt
    rw [List.getElem?_map, List.getElem?_eq_getElem hlt]
    rfl
  have d4 : CDiv k 4 := ⟨by decide, by decide⟩
  refine q_asg (ev_int1 (ev_op (ev_var rfl) (ev_op (ev_int1 (ev_op (ev_var rfl) ev_c (rv_I d4))) (len e1 rfl) (rv_I hne)) (rv_ixL (ex_l e1 hS) hix))) fun H2 e2 => ?_
  have e12 := e1.trans e2
  refine q_when (b := decide (10 ^ (18 : Int).toNat ≤ cellAt ns k) && decide (k / 4 < (ns.length : Int))) (et_and (et_test (ev_op (ev_var rfl) (ev_op ev_c ev_c (rv_I ⟨by decide, by decide, by decide⟩)) rv_I0)) fun _ => et_test (ev_op (ev_op (ev_var rfl) ev_c (rv_I d4)) (len e12 rfl) rv_I0)) (fun hb2 H3 e3 => ?_) (fun hb2 H3 e3 => ?_)
  · have e13 := e12.trans e3
    have k4 := Int.emod_nonneg k (b := 4) (by decide)
    have k4' := Int.emod_lt_of_pos k (b := 4) (by decide)
    refine q_forR1 (n := k % 4) (ea_cons (ev_op (ev_int1 (ev_var rfl)) ev_c (rv_I (by decide))) ea_nil) (by omega) (fun i σ' H' => ∃ y, σ' = [some (.ref a), some (.int k), some (.int m), some (.int (thou (cellAt ns k) i)), y, none] ∧ Ex H H')
      (fun H4 e4 => ⟨none, rfl, e13.trans e4⟩) (fun i σ' H4 hi h => ?_) (fun σ' H4 h => ?_)
    · obtain ⟨y, rfl, e4⟩ := h
      exact s_asg (ev_op (ev_var rfl) ev_c (rv_I ⟨by decide, by decide⟩)) fun H5 e5 => ⟨_, rfl, e4.trans e5⟩
    · obtain ⟨y, rfl, e4⟩ := h
      refine s_ret (ev_op (ev_op (ev_int1 (ev_var rfl)) ev_c (rv_I (by decide))) (ev_var rfl) (rv_I hm)) fun H5 e5 => ?_
      have := q H5 (e4.trans e5)
      unfold draw at this
      rw [if_neg (by rw [hb]; decide), if_pos hb2] at this
      exact this
  · have e13 := e12.trans e3
    have bd : ∀ z : Int, -(2 ^ 64) < z % 2147483647 ∧ z % 2147483647 < 2 ^ 64 := fun z => by
      have := Int.emod_nonneg z (b := 2147483647) (by decide)
      have := Int.emod_lt_of_pos z (b := 2147483647) (by decide)
      constructor <;> omega
    have bd2 : ∀ z : Int, -(2 ^ 64) < z % 998244353 ∧ z % 998244353 < 2 ^ 64 := fun z => by
      have := Int.emod_nonneg z (b := 998244353) (by decide)
      have := Int.emod_lt_of_pos z (b := 998244353) (by decide)
      constructor <;> omega
    refine q_asg (ev_op (ev_int1 (ev_op (ev_op (ev_op (ev_var rfl) ev_c (rv_I (.inr ⟨by decide, by decide⟩))) (ev_op (ev_var rfl) ev_c (rv_I (.inr ⟨by decide, by decide⟩))) rv_I0) ev_c rv_I0)) ev_c (rv_I (by decide))) fun H4 e4 => ?_
    refine q_asg (ev_op (ev_int1 (ev_op (ev_op (ev_op (ev_var rfl) (ev_var rfl) (rv_I (.inl (bd _)))) (ev_op ev_c (ev_var rfl) (rv_I (.inl ⟨by decide, by decide⟩))) rv_I0) ev_c rv_I0)) ev_c (rv_I (by decide))) fun H5 e5 => ?_
    refine q_asg (ev_op (ev_int1 (ev_op (ev_op (ev_op (ev_var rfl) (ev_var rfl) (rv_I (.inl (bd2 _)))) (ev_op ev_c (ev_var rfl) (rv_I (.inl ⟨by decide, by decide⟩))) rv_I0) (ev_var rfl) rv_I0)) ev_c (rv_I (by decide))) fun H6 e6 => ?_
    refine s_ret (ev_op (ev_op (ev_var rfl) ev_c (rv_I ⟨by decide, by decide⟩)) (ev_var rfl) (rv_I hm)) fun H7 e7 => ?_
    have := q H7 ((((e13.trans e4).trans e5).trans e6).trans e7)
    unfold draw at this
    rw [if_neg (by rw [hb]; decide), if_neg (by rw [hb2]; decide)] at this
    exact this
theorem ok_size (T : Tx K mg) : FnOk P w K mg base CX0 2 T.f_size T.d_size ["_law_script", "_law_k", "_law_few", "_law_most"] (spSize K) := by
  refine T.t_size.F.ok sc_size (fun vs H Q E h => ?_) (fun cdv A outer s H vs Q E hr h => ?_)
  · obtain ⟨a, ns, k, f, m, rfl, _⟩ := h
    rfl
  obtain ⟨a, ns, k, f, m, rfl, hS, hf, hm, q⟩ := h
  refine ⟨_, (pss_cons (ps_if (pt_cmpR op_eq (pe_call (ok_draw T) (hr.mono (by decide)) (by rfl) T.t_draw.g T.t_draw.F.kp T.t_draw.b .nil pass0 (pa_cons (pv 0) (pa_cons (pe_op op_add (pv 1) pe_int) (pa_cons pe_int pa_nil)))) pe_int (nomark _)) (pss_one (ps_ret (pe_op op_add pe_int (pe_call (ok_draw T) (hr.mono (by decide)) (by rfl) T.t_draw.g T.t_draw.F.kp T.t_draw.b .nil pass0 (pa_cons (pv 0) (pa_cons (pv 1) (pa_cons (pv 3) pa_nil))))))) pss_nil)
      (pss_one (ps_ret (pe_op op_add pe_int (pe_call (ok_draw T) (hr.mono (by decide)) (by rfl) T.t_draw.g T.t_draw.F.kp T.t_draw.b .nil pass0 (pa_cons (pv 0) (pa_cons (pv 1) (pa_cons (pv 2) pa_nil)))))))), ?_⟩
  refine q_when (b := decide (V.int (draw ns (k + 700) 8) = V.int 0)) (et_test (ev_op (ev_draw (ev_var rfl) hS (ev_op (ev_var rfl) ev_c rv_I0) ev_c (by decide)) ev_c (rv_eq rfl))) (fun hb H1 e1 => ?_) (fun hb H1 e1 => ?_)
  · refine s_ret (ev_op ev_c (ev_draw (ev_var rfl) (ex_l e1 hS) (ev_var rfl) (ev_var rfl) hm) rv_I0) fun H2 e2 => ?_
    have := q H2 (e1.trans e2)
    unfold sizeM at this
    rw [if_pos hb] at this
    exact this
  · refine s_ret (ev_op ev_c (ev_draw (ev_var rfl) (ex_l e1 hS) (ev_var rfl) (ev_var rfl) hf) rv_I0) fun H2 e2 => ?_
    have := q H2 (e1.trans e2)
    unfold sizeM at this
    rw [if_neg (by rw [hb]; decide)] at this
    exact this
theorem ok_name (T : Tx K mg) : FnOk P w K mg base CX0 2 T.f_name T.d_name ["_law_script", "_law_k", "_law_first"] (spName K) := by
  refine T.t_name.F.ok sc_name (fun vs H Q E h => ?_) (fun cdv A outer s H vs Q E hr h => ?_)
  · obtain ⟨a, ns, k, z, rfl, _⟩ := h
    rfl
  obtain ⟨a, ns, k, z, rfl, hS, hz, q⟩ := h
  refine ⟨_, (pss_one (ps_ret (pe_op op_add_str (pv 2) (pe_ix (r := rIxL K) ix_list (pe_lst (pa_cons pe_str (pa_cons pe_str (pa_cons pe_str (pa_cons pe_str pa_nil))))) (pe_call (ok_draw T) (hr.mono (by decide)) (by rfl) T.t_draw.g T.t_draw.F.kp T.t_draw.b .nil pass0 (pa_cons (pv 0) (pa_cons (pv 1) (pa_cons pe_int pa_nil)))) (fun _ _ => rfl))))), ?_⟩
  have d0 := draw_lo ns k (m := 4) (by decide)
  have d1 := draw_hi ns k (m := 4) (by decide)
  have hsz : ∀ y ∈ sfx, y.length ≤ 100 := by decide +kernel
  have hp := hsz _ (pickS_mem (l := sfx) d0 d1)
  refine s_ret (ev_op (ev_var rfl) (ev_pick (xs := sfx.map V.str) (ea_cons ev_c (ea_cons ev_c (ea_cons ev_c (ea_cons ev_c ea_nil)))) (ev_draw (ev_var rfl) hS (ev_var rfl) ev_c (by decide)) (by decide) (at_strs (l := sfx) d0 d1)) (fun H1 e Q q => ⟨_, _, rfl, rfl, Nat.le_trans (Nat.add_le_add hz hp) (by decide), q H1 (Ex.refl H1)⟩)) fun H2 e2 => q H2 e2
end
end K44
/-! K44Law2: tempo, clip, instrument, track: only that they come back; effect: what it is. -/
namespace K44
open PySem PySem.Spec PyProof.Rows L2 Evl
section
variable {K : PySem.W.Frag} {σ : L2.St} {H H' : Hp} {te ta tb : TE} {tl : TA} {D : Ends} {tz tu : TS} {P R : V → Hp → Prop} {v : V}
abbrev EvQ (te : TE) (σ : L2.St) (H : Hp) : Prop := EvP te σ H fun _ _ => True
abbrev EvQs (ta : TA) (σ : L2.St) (H : Hp) (n : Nat) : Prop := EvAP ta σ H fun ws _ => ws.length ≤ n
theorem eq_of (h : Ev te σ H v) : EvQ te σ H := ep_any (ep_of h)
theorem eqs_nil : EvQs tNil σ H 0 := fun H1 e Q q => q [] H1 (Ex.refl H1) (Nat.le_refl _)
theorem eqs_cons {n : Nat} (h : EvP te σ H P) (hr : EvQs tl σ H n) : EvQs (tCons te tl) σ H (n + 1) := fun H1 e Q q =>
  h H1 e _ fun y H2 e2 _ => hr H2 (e.trans e2) _ fun ys H3 e3 hs => q _ H3 (e2.trans e3) (by show (y :: ys).length ≤ n + 1; rw [List.length_cons]; exact Nat.succ_le_succ hs)
theorem eq_tup {n : Nat} (h : EvQs tl σ H n) (hn : n ≤ 100000) : EvQ (tTup tl) σ H := ep_any (ep_tup h (fun _ _ q => Nat.le_trans q hn) fun _ _ _ _ q => q)
/-- a new list of what is only counted -/
def EvNL (te : TE) (σ : L2.St) (H : Hp) (n : Nat) : Prop := ∀ H1, Ex H H1 → ∀ Q : VK, (∀ p xs H2, H1 p = none → Ex H1 H2 → H2 p = some (.lst xs) → xs.length ≤ n → Q (.ref p) H2) → te σ H1 Q
theorem enl_lst {n : Nat} (h : EvQs tl σ H n) (hn : n ≤ 100000) : EvNL (tLst tl) σ H n := fun H1 e Q q =>
  h H1 e _ fun xs H2 e2 hx => ⟨sz_of (Nat.le_trans hx hn), fun p hp => q p xs _ (fresh_back e2 hp) (e2.trans (Ex.new hp)) upd_same hx⟩
theorem q_asgNL {i n : Nat} (h : EvNL te σ H n) (k : ∀ p xs H1, H p = none → Ex H H1 → H1 p = some (.lst xs) → xs.length ≤ n → tz D (σ.set i (some (.ref p))) H1) : tSeq (tAsg te (gName i)) tz D σ H := h H (Ex.refl H) _ k
/-- [..] over a range, of what is only counted -/
theorem eq_lcR1 {ta : TA} {j : Nat} {vs : List Nat} {n : Int} (h : EvA ta σ H [.int n]) (hn : 0 ≤ n ∧ n ≤ 40000) (hw : ∀ x, wipe ((wipe σ vs).set j (some x)) vs = wipe σ vs)
    (he : ∀ (i : Nat) H1, Ex H H1 → (i : Int) < n → EvQ te ((wipe σ vs).set j (some (.int (i : Int)))) H1) :
    EvP (tLc (iRng1 ta) (gName j) tYes te vs) σ H (fun v H' => ∃ p xs, v = .ref p ∧ H' p = some (.lst xs) ∧ xs.length ≤ n.toNat) := fun H0 e Q q => h H0 e _ fun H1 e1 => ⟨n, rfl, by omega, by omega, fun Dl hD =>
  lc_range (lo := 0) (n := n.toNat) (fun i H' => Ex H1 H' ∧ ∃ xs, H' Dl = some (.lst xs) ∧ xs.length ≤ i) ⟨Ex.new hD, [], upd_same, Nat.le_refl _⟩ (fun i H' hi p => by
    obtain ⟨p1, xs, p2, p3⟩ := p
    have e0 : (0 : Int) + (i : Int) = (i : Int) := Int.zero_add _
    show wipe ((wipe σ vs).set j (some (.int ((0 : Int) + (i : Int))))) vs = wipe σ vs ∧ te ((wipe σ vs).set j (some (.int ((0 : Int) + (i : Int))))) H' fun y H4 => ∃ acc, H4 Dl = some (.lst acc) ∧ acc.length < sizeLine ∧ (Ex H1 (upd H4 Dl (.lst (acc ++ [y]))) ∧ ∃ xs, (upd H4 Dl (.lst (acc ++ [y]))) Dl = some (.lst xs) ∧ xs.length ≤ i + 1)
    rw [e0]
    refine ⟨hw _, he i H' ((e.trans e1).trans p1) (by omega) H' (Ex.refl H') _ fun y H4 e4 _ => ⟨xs, e4 Dl _ p2, sz_lt (by omega), Ex.mut (p1.trans e4) hD, xs ++ [y], upd_same, ?_⟩⟩
    rw [List.length_append]
    exact Nat.succ_le_succ p3) (fun H' p => by
    obtain ⟨p1, xs, p2, p3⟩ := p
    exact q _ H' (e1.trans p1) ⟨Dl, xs, rfl, p2, p3⟩)⟩
/-- tuple(xs) -/
def rTupOf (K : PySem.W.Frag) : List V → Hp → VK → Prop := fun xs H Q => ∃ p ys, xs = [.ref p] ∧ ((SqL K H p ys ∧ ∀ l, H l = none → Q (.ref l) (upd H l (.tup ys))) ∨ (SqT K H p ys ∧ Q (.ref p) H))
theorem ep_tupOf {p : Addr} {ys : List V} (h : Ev te σ H (.ref p)) (hs : SqL K H p ys) : EvP (tCB (rTupOf K) (tCons te tNil)) σ H (fun v H' => ∃ q, v = .ref q ∧ H' q = some (.tup ys)) := fun H1 e Q q =>
  h H1 e _ fun H2 e2 => ⟨p, ys, rfl, .inl ⟨ex_l (e.trans e2) hs, fun l hl => q _ _ (e2.trans (Ex.new hl)) ⟨l, rfl, upd_same⟩⟩⟩
theorem eq_slT {a : Addr} {xs : List V} {i : Int} (h : Ev te σ H (.ref a)) (hs : SqT K H a xs) (hi : Ev tb σ H (.int i)) : EvQ (tSl (rSlA K) te tNoPart (tPart tb)) σ H := fun H1 e Q q =>
  h H1 e _ fun H2 e2 => hi H2 (e.trans e2) _ fun H3 e3 => ⟨i, rfl, a, xs, rfl, ex_t ((e.trans e2).trans e3) hs, fun _ => q _ H3 (e2.trans e3) trivial, fun _ p hp => q _ _ ((e2.trans e3).trans (Ex.new hp)) trivial⟩
/-- promises -/
def RetAny (H : Hp) (Q : VK) : Prop := ∀ v H', Ex H H' → Q v H'
def spTempo (K : PySem.W.Frag) : Sp := fun vs H Q _ => ∃ (a : Addr) (ns : List Int) (k : Int), vs = [.ref a, .int k] ∧ SqL K H a (ns.map V.int) ∧ RetAny H Q
abbrev spClip (K : PySem.W.Frag) : Sp := spTempo K
abbrev spInstr (K : PySem.W.Frag) : Sp := spTempo K
def TrackAt (K : PySem.W.Frag) (H : Hp) (v : V) : Prop := ∃ p z r, v = .ref p ∧ SqT K H p (.str z :: r)
def spTrack (K : PySem.W.Frag) : Sp := fun vs H Q _ => ∃ (a : Addr) (ns : List Int) (k : Int) (z : Str), vs = [.ref a, .int k, .str z] ∧ SqL K H a (ns.map V.int) ∧ ∀ v H', Ex H H' → TrackAt K H' v → Q v H'
def spEffect (K : PySem.W.Frag) : Sp := fun vs H Q _ => ∃ (a : Addr) (ns : List Int) (k : Int), vs = [.ref a, .int k] ∧ SqL K H a (ns.map V.int) ∧ ∀ v H', Ex H H' → (∃ lat, IsWhat K H' v lat) → Q v H'
theorem eq_tempo {E : XK} {a : Addr} {ns : List Int} {k : Int} {t0 t1 : TE} (h0 : Ev t0 σ H (.ref a)) (hS : SqL K H a (ns.map V.int)) (h1 : Ev t1 σ H (.int k)) : EvQ (tCall (spTempo K) [] E (tCons t0 (tCons t1 tNil))) σ H :=
  ep_call (ea_cons h0 (ea_cons h1 ea_nil)) fun H1 e1 Q q E => ⟨a, ns, k, rfl, ex_l e1 hS, fun v H2 e2 => q v H2 e2 trivial⟩
end
section
variable {P : Program} {w : World} {K : PySem.W.Frag} {mg : Str → Option Value} {base : Heap}
theorem ok_tempo (T : Tx K mg) : FnOk P w K mg base CX0 2 T.f_tempo T.d_tempo ["_law_script", "_law_k"] (spTempo K) := by
  refine T.t_tempo.F.ok sc_tempo (fun vs H Q E h => ?_) (fun cdv A outer s H vs Q E hr h => ?_)
  · obtain ⟨a, ns, k, rfl, _⟩ := h
    rfl
  obtain ⟨a, ns, k, rfl, hS, q⟩ := h
  refine ⟨_, (pss_cons (ps_set (i := 2) sc_tempo.nd rfl (.inl rfl) (pe_lst (pa_cons (pe_tup (pa_cons pe_int (pa_cons (pe_op op_add pe_int (pe_call (ok_draw T) (hr.mono (by decide)) (by rfl) T.t_draw.g T.t_draw.F.kp T.t_draw.b .nil pass0 (pa_cons (pv 0) (pa_cons (pv 1) (pa_cons pe_int pa_nil))))) (pa_cons (pe_op op_add pe_int (pe_call (ok_draw T) (hr.mono (by decide)) (by rfl) T.t_draw.g T.t_draw.F.kp T.t_draw.b .nil pass0 (pa_cons (pv 0) (pa_cons (pe_op op_add (pv 1) pe_int) (pa_cons pe_int pa_nil))))) pa_nil)))) pa_nil)))
      (pss_cons (ps_if (pt_cmpR op_eq (pe_call (ok_draw T) (hr.mono (by decide)) (by rfl) T.t_draw.g T.t_draw.F.kp T.t_draw.b .nil pass0 (pa_cons (pv 0) (pa_cons (pe_op op_add (pv 1) pe_int) (pa_cons pe_int pa_nil)))) pe_int (nomark _)) (pss_one (ps_expr (pe_bm PySem.F.plainAttrs_list PySem.F.slot_list_append PySem.F.type_list_append mt_append (pv 2) (pa_cons (pe_tup (pa_cons (pe_op op_add pe_int (pe_call (ok_draw T) (hr.mono (by decide)) (by rfl) T.t_draw.g T.t_draw.F.kp T.t_draw.b .nil pass0 (pa_cons (pv 0) (pa_cons (pe_op op_add (pv 1) pe_int) (pa_cons pe_int pa_nil))))) (pa_cons (pe_op op_add pe_int (pe_call (ok_draw T) (hr.mono (by decide)) (by rfl) T.t_draw.g T.t_draw.F.kp T.t_draw.b .nil pass0 (pa_cons (pv 0) (pa_cons (pe_op op_add (pv 1) pe_int) (pa_cons pe_int pa_nil))))) (pa_cons (pe_op op_add pe_int (pe_call (ok_draw T) (hr.mono (by decide)) (by rfl) T.t_draw.g T.t_draw.F.kp T.t_draw.b .nil pass0 (pa_cons (pv 0) (pa_cons (pe_op op_add (pv 1) pe_int) (pa_cons pe_int pa_nil))))) pa_nil)))) pa_nil)))) pss_nil)
      (pss_one (ps_ret (pv 2))))), ?_⟩
  have dr : ∀ {σ : L2.St} {H1 : Hp} {j m : Int} {E : XK}, Ex H H1 → σ[0]? = some (some (.ref a)) → σ[1]? = some (some (.int k)) → 0 < m → Ev (tOp (rI0 fun i j => .int (i + j)) (tC (.int 1)) (tCall (spDraw K) [] E (tCons (tVar 0) (tCons (tOp (rI0 fun i j => .int (i + j)) (tVar 1) (tC (.int j))) (tCons (tC (.int m)) tNil))))) σ H1 (.int (1 + draw ns (k + j) m)) := fun e h0 h1 hm =>
    ev_op ev_c (ev_draw (ev_var h0) (ex_l e hS) (ev_op (ev_var h1) ev_c rv_I0) ev_c hm) rv_I0
  refine q_asgNL (n := 1) (enl_lst (eqs_cons (eq_tup (n := 3) (eqs_cons (eq_of ev_c) (eqs_cons (eq_of (ev_op ev_c (ev_draw (ev_var rfl) hS (ev_var rfl) ev_c (by decide)) rv_I0)) (eqs_cons (eq_of (dr (Ex.refl H) rfl rfl (by decide))) eqs_nil))) (by decide)) eqs_nil) (by decide)) fun l xs H1 hl e1 h1 hx => ?_
  refine q_when (b := decide (V.int (draw ns (k + 2) 3) = V.int 0)) (et_test (ev_op (ev_draw (ev_var rfl) (ex_l e1 hS) (ev_op (ev_var rfl) ev_c rv_I0) ev_c (by decide)) ev_c (rv_eq rfl))) (fun hb H2 e2 => ?_) (fun hb H2 e2 => ?_)
  · have e12 := e1.trans e2
    refine s_appP (e2 l _ h1) (ev_var rfl) (eq_tup (n := 3) (eqs_cons (eq_of (dr e12 rfl rfl (by decide))) (eqs_cons (eq_of (dr e12 rfl rfl (by decide))) (eqs_cons (eq_of (dr e12 rfl rfl (by decide))) eqs_nil))) (by decide)) (by omega) fun v H3 e3 _ _ => ?_
    exact s_ret (ev_var rfl) fun H4 e4 => q _ H4 ((Ex.mut (e12.trans e3) hl).trans e4)
  · exact s_ret (ev_var rfl) fun H4 e4 => q _ H4 ((e1.trans e2).trans e4)
theorem ok_clip (T : Tx K mg) : FnOk P w K mg base CX0 2 T.f_clip T.d_clip ["_law_script", "_law_k"] (spTempo K) := by
  refine T.t_clip.F.ok sc_clip (fun vs H Q E h => ?_) (fun cdv A outer s H vs Q E hr h => ?_)
  · obtain ⟨a, ns, k, rfl, _⟩ := h
    rfl
  obtain ⟨a, ns, k, rfl, hS, q⟩ := h
  refine ⟨_, (pss_cons (ps_set (i := 2) sc_clip.nd rfl (.inl rfl) (pe_lst pa_nil))
      (pss_cons (ps_for PassesOwn.never rfl (pi_range1 (by rfl) T.B.range (pa_cons (pe_call (ok_draw T) (hr.mono (by decide)) (by rfl) T.t_draw.g T.t_draw.F.kp T.t_draw.b .nil pass0 (pa_cons (pv 0) (pa_cons (pv 1) (pa_cons pe_int pa_nil)))) pa_nil)) (pg_name (i := 3) sc_clip.nd rfl (.inl rfl))
        (pss_cons (ps_set (i := 4) sc_clip.nd rfl (.inl rfl) (pe_op op_add (pe_op op_add (pv 1) pe_int) (pe_op op_mul pe_int (pv 3))))
        (pss_cons (ps_set (i := 5) sc_clip.nd rfl (.inl rfl) (pe_call (ok_draw T) (hr.mono (by decide)) (by rfl) T.t_draw.g T.t_draw.F.kp T.t_draw.b .nil pass0 (pa_cons (pv 0) (pa_cons (pv 4) (pa_cons pe_int pa_nil)))))
        (pss_cons (ps_set (i := 6) sc_clip.nd rfl (.inl rfl) (pe_op op_add pe_int (pe_call (ok_draw T) (hr.mono (by decide)) (by rfl) T.t_draw.g T.t_draw.F.kp T.t_draw.b .nil pass0 (pa_cons (pv 0) (pa_cons (pe_op op_add (pv 4) pe_int) (pa_cons pe_int pa_nil))))))
        (pss_cons (ps_set (i := 7) sc_clip.nd rfl (.inl rfl) (pe_op op_add pe_int (pe_call (ok_draw T) (hr.mono (by decide)) (by rfl) T.t_draw.g T.t_draw.F.kp T.t_draw.b .nil pass0 (pa_cons (pv 0) (pa_cons (pe_op op_add (pv 4) pe_int) (pa_cons pe_int pa_nil))))))
        (pss_one (ps_expr (pe_bm PySem.F.plainAttrs_list PySem.F.slot_list_append PySem.F.type_list_append mt_append (pv 2) (pa_cons (pe_tup (pa_cons (pv 5) (pa_cons (pv 6) (pa_cons (pv 7) (pa_cons (pe_op op_add pe_int (pe_call (ok_draw T) (hr.mono (by decide)) (by rfl) T.t_draw.g T.t_draw.F.kp T.t_draw.b .nil pass0 (pa_cons (pv 0) (pa_cons (pe_op op_add (pv 4) pe_int) (pa_cons pe_int pa_nil))))) pa_nil))))) pa_nil)))))))))
      (pss_cons (ps_set (i := 8) sc_clip.nd rfl (.inl rfl) (pe_op op_add pe_int (pe_call (ok_draw T) (hr.mono (by decide)) (by rfl) T.t_draw.g T.t_draw.F.kp T.t_draw.b .nil pass0 (pa_cons (pv 0) (pa_cons (pe_op op_add (pv 1) pe_int) (pa_cons pe_int pa_nil))))))
      (pss_one (ps_ret (pe_tup (pa_cons (pe_call (ok_draw T) (hr.mono (by decide)) (by rfl) T.t_draw.g T.t_draw.F.kp T.t_draw.b .nil pass0 (pa_cons (pv 0) (pa_cons (pe_op op_add (pv 1) pe_int) (pa_cons pe_int pa_nil)))) (pa_cons (pv 8) (pa_cons (pe_op op_add pe_int (pe_call (ok_draw T) (hr.mono (by decide)) (by rfl) T.t_draw.g T.t_draw.F.kp T.t_draw.b .nil pass0 (pa_cons (pv 0) (pa_cons (pe_op op_add (pv 1) pe_int) (pa_cons pe_int pa_nil))))) (pa_cons (pe_callTy call_tuple_of (by rfl) T.B.tuple (by decide +kernel) (pa_cons (pv 2) pa_nil)) pa_nil)))))))))), ?_⟩
  refine q_asgL (el_lst ea_nil (by show (0 : Nat) ≤ 100000; omega)) fun l H1 hl e1 h1 => ?_
  have d0 := draw_lo ns k (m := 4) (by decide)
  have d1 := draw_hi ns k (m := 4) (by decide)
  refine q_forR1 (ea_cons (ev_draw (ev_var rfl) (ex_l e1 hS) (ev_var rfl) ev_c (by decide)) ea_nil) (by omega) (fun i σ' H' => ∃ y3 y4 y5 y6 y7 xs, σ' = [some (.ref a), some (.int k), some (.ref l), y3, y4, y5, y6, y7, none] ∧ Ex H H' ∧ H' l = some (.lst xs) ∧ xs.length ≤ i)
    (fun H2 e2 => ⟨none, none, none, none, none, [], rfl, e1.trans e2, e2 l _ h1, Nat.le_refl _⟩) (fun i σ' H2 hi h => ?_) (fun σ' H2 h => ?_)
  · obtain ⟨y3, y4, y5, y6, y7, xs, rfl, e2, h2, hx⟩ := h
    refine q_asg (ev_op (ev_op (ev_var rfl) ev_c rv_I0) (ev_op ev_c (ev_var rfl) (rv_I (.inl ⟨by decide, by decide⟩))) rv_I0) fun H3 e3 => ?_
    refine q_asg (ev_draw (ev_var rfl) (ex_l (e2.trans e3) hS) (ev_var rfl) ev_c (by decide)) fun H4 e4 => ?_
    have e24 := (e2.trans e3).trans e4
    refine q_asg (ev_op ev_c (ev_draw (ev_var rfl) (ex_l e24 hS) (ev_op (ev_var rfl) ev_c rv_I0) ev_c (by decide)) rv_I0) fun H5 e5 => ?_
    refine q_asg (ev_op ev_c (ev_draw (ev_var rfl) (ex_l (e24.trans e5) hS) (ev_op (ev_var rfl) ev_c rv_I0) ev_c (by decide)) rv_I0) fun H6 e6 => ?_
    have e26 := (e24.trans e5).trans e6
    refine s_appP ((((e3.trans e4).trans e5).trans e6) l _ h2) (ev_var rfl) (eq_tup (n := 4) (eqs_cons (eq_of (ev_var rfl)) (eqs_cons (eq_of (ev_var rfl)) (eqs_cons (eq_of (ev_var rfl)) (eqs_cons (eq_of (ev_op ev_c (ev_draw (ev_var rfl) (ex_l e26 hS) (ev_op (ev_var rfl) ev_c rv_I0) ev_c (by decide)) rv_I0)) eqs_nil)))) (by decide)) (by omega) fun v H7 e7 _ _ => ?_
    refine ⟨_, _, _, _, _, _, rfl, Ex.mut (e26.trans e7) hl, upd_same, ?_⟩
    rw [List.length_append]
    exact Nat.succ_le_succ hx
  · obtain ⟨y3, y4, y5, y6, y7, xs, rfl, e2, h2, hx⟩ := h
    refine q_asg (ev_op ev_c (ev_draw (ev_var rfl) (ex_l e2 hS) (ev_op (ev_var rfl) ev_c rv_I0) ev_c (by decide)) rv_I0) fun H3 e3 => ?_
    have e23 := e2.trans e3
    exact s_retP (eq_tup (n := 4) (eqs_cons (eq_of (ev_draw (ev_var rfl) (ex_l e23 hS) (ev_op (ev_var rfl) ev_c rv_I0) ev_c (by decide))) (eqs_cons (eq_of (ev_var rfl)) (eqs_cons (eq_of (ev_op ev_c (ev_draw (ev_var rfl) (ex_l e23 hS) (ev_op (ev_var rfl) ev_c rv_I0) ev_c (by decide)) rv_I0)) (eqs_cons (ep_any (ep_tupOf (ev_var rfl) (sq_of (e3 l _ h2)))) eqs_nil)))) (by decide)) fun v H4 e4 _ => q v H4 (e23.trans e4)
theorem ok_instr (T : Tx K mg) : FnOk P w K mg base CX0 3 T.f_instr T.d_instr ["_law_script", "_law_k"] (spTempo K) := by
  refine T.t_instr.F.ok sc_instr (fun vs H Q E h => ?_) (fun cdv A outer s H vs Q E hr h => ?_)
  · obtain ⟨a, ns, k, rfl, _⟩ := h
    rfl
  obtain ⟨a, ns, k, rfl, hS, q⟩ := h
  refine ⟨_, (pss_cons (ps_set (i := 2) sc_instr.nd rfl (.inl rfl) (pe_ix (r := rIxL K) ix_list (pe_lst (pa_cons pe_str (pa_cons pe_str (pa_cons pe_str pa_nil)))) (pe_call (ok_draw T) (hr.mono (by decide)) (by rfl) T.t_draw.g T.t_draw.F.kp T.t_draw.b .nil pass0 (pa_cons (pv 0) (pa_cons (pv 1) (pa_cons pe_int pa_nil)))) (fun _ _ => rfl)))
      (pss_cons (ps_set (i := 3) sc_instr.nd rfl (.inl rfl) (pe_call (ok_draw T) (hr.mono (by decide)) (by rfl) T.t_draw.g T.t_draw.F.kp T.t_draw.b .nil pass0 (pa_cons (pv 0) (pa_cons (pe_op op_add (pv 1) pe_int) (pa_cons pe_int pa_nil)))))
      (pss_cons (ps_set (i := 4) sc_instr.nd rfl (.inl rfl) (pe_call (ok_draw T) (hr.mono (by decide)) (by rfl) T.t_draw.g T.t_draw.F.kp T.t_draw.b .nil pass0 (pa_cons (pv 0) (pa_cons (pe_op op_add (pv 1) pe_int) (pa_cons pe_int pa_nil)))))
      (pss_cons (ps_if (pt_cmpR op_eq (pv 2) pe_str (nomark _)) (pss_cons (ps_set (i := 5) sc_instr.nd rfl (.inl rfl) (pe_op op_repT (pe_tup (pa_cons pe_int (pa_cons pe_int (pa_cons (pe_un un_neg pe_int) (pa_cons (pe_un un_neg pe_int) (pa_cons pe_int (pa_cons pe_int (pa_cons pe_int (pa_cons (pe_un un_neg pe_int) pa_nil))))))))) pe_int))
        (pss_one (ps_ret (pe_tup (pa_cons (pv 2) (pa_cons (pv 3) (pa_cons (pv 4) (pa_cons (pe_slice sl_tupA (pv 5) po_none (po_some (pe_call (ok_size T) (hr.mono (by decide)) (by rfl) T.t_size.g T.t_size.F.kp T.t_size.b .nil pass0 (pa_cons (pv 0) (pa_cons (pe_op op_add (pv 1) pe_int) (pa_cons pe_int (pa_cons pe_int pa_nil))))))) pa_nil)))))))) pss_nil)
      (pss_one (ps_ret (pe_tup (pa_cons (pv 2) (pa_cons (pv 3) (pa_cons (pv 4) pa_nil)))))))))), ?_⟩
  have d0 := draw_lo ns k (m := 3) (by decide)
  have d1 := draw_hi ns k (m := 3) (by decide)
  refine q_asg (ev_pick (xs := (["saw", "square", "steps"] : List Str).map V.str) (ea_cons ev_c (ea_cons ev_c (ea_cons ev_c ea_nil))) (ev_draw (ev_var rfl) hS (ev_var rfl) ev_c (by decide)) (by decide) (at_strs (l := ["saw", "square", "steps"]) d0 d1)) fun H1 e1 => ?_
  refine q_asg (ev_draw (ev_var rfl) (ex_l e1 hS) (ev_op (ev_var rfl) ev_c rv_I0) ev_c (by decide)) fun H2 e2 => ?_
  have e12 := e1.trans e2
  refine q_asg (ev_draw (ev_var rfl) (ex_l e12 hS) (ev_op (ev_var rfl) ev_c rv_I0) ev_c (by decide)) fun H3 e3 => ?_
  have e13 := e12.trans e3
  refine q_when (et_test (ev_op (ev_var rfl) ev_c (rv_eq rfl))) (fun hb H4 e4 => ?_) (fun hb H4 e4 => ?_)
  · have e14 := e13.trans e4
    refine q_asgP (P := fun v H' => ∃ p ys, v = .ref p ∧ H' p = some (.tup ys)) (ep_opP (P := fun v H' => ∃ p, v = .ref p ∧ H' p = some (.tup [.int 0, .int 8000000, .int (-3), .int (-8388608), .int 120000, .int 8388607, .int 1, .int (-70000)])) (fun H5 e5 Q q => eu_tup (ea_cons ev_c (ea_cons ev_c (ea_cons (ev_un ev_c ru_neg) (ea_cons (ev_un ev_c ru_neg) (ea_cons ev_c (ea_cons ev_c (ea_cons ev_c (ea_cons (ev_un ev_c ru_neg) ea_nil)))))))) (by decide) H5 e5 Q fun p H6 _ e6 h6 => q _ H6 e6 ⟨p, rfl, h6⟩) ev_c (fun v H5 H6 e h => ?_) (fun v H5 e h Q q => ?_)) fun v H5 e5 h5 => ?_
    · obtain ⟨p, rfl, h⟩ := h
      exact ⟨p, rfl, e p _ h⟩
    · obtain ⟨p, rfl, h⟩ := h
      exact ⟨p, 8, _, rfl, rfl, st_of h, by simp, by decide, by decide, by simp, fun p2 hp2 => q _ _ (Ex.new hp2) ⟨p2, _, rfl, upd_same⟩⟩
    · obtain ⟨p, ys, rfl, hp⟩ := h5
      have e15 := e14.trans e5
      exact s_retP (eq_tup (n := 4) (eqs_cons (eq_of (ev_var rfl)) (eqs_cons (eq_of (ev_var rfl)) (eqs_cons (eq_of (ev_var rfl)) (eqs_cons (eq_slT (ev_var rfl) (st_of hp) (ev_size (ev_var rfl) (ex_l e15 hS) (ev_op (ev_var rfl) ev_c rv_I0) ev_c ev_c (by decide) (by decide))) eqs_nil)))) (by decide)) fun v H6 e6 _ => q v H6 (e15.trans e6)
  · exact s_retP (eq_tup (n := 3) (eqs_cons (eq_of (ev_var rfl)) (eqs_cons (eq_of (ev_var rfl)) (eqs_cons (eq_of (ev_var rfl)) eqs_nil))) (by decide)) fun v H5 e5 _ => q v H5 ((e13.trans e4).trans e5)
theorem ok_track (T : Tx K mg) : FnOk P w K mg base CX0 4 T.f_track T.d_track ["_law_script", "_law_k", "_law_name_here"] (spTrack K) := by
  refine T.t_track.F.ok sc_track (fun vs H Q E h => ?_) (fun cdv A outer s H vs Q E hr h => ?_)
  · obtain ⟨a, ns, k, z, rfl, _⟩ := h
    rfl
  obtain ⟨a, ns, k, z, rfl, hS, q⟩ := h
  refine ⟨_, (pss_cons (ps_setLc (i := 3) (own := [("_law_j", 4)]) (g := gName 4) rfl sc_track.nd rfl rfl (sw_true rfl rfl rfl (by decide +kernel)) (pi_range1 (by rfl) T.B.range (pa_cons (pe_call (ok_draw T) (hr.mono (by decide)) (by rfl) T.t_draw.g T.t_draw.F.kp T.t_draw.b .nil pass0 (pa_cons (pv 0) (pa_cons (pv 1) (pa_cons pe_int pa_nil)))) pa_nil)) (blkOk_by (N := N_track) (sc := defScope s_track) (by decide +kernel)) (fun _ _ _ _ _ => pg_name (i := 4) sc_track.nd rfl (.inl rfl)) (fun _ _ _ _ _ => pts_nil) (fun _ _ _ _ _ => (pe_call (ok_clip T) (hr.mono (by decide)) (by rfl) T.t_clip.g T.t_clip.F.kp T.t_clip.b .nil pass0 (pa_cons (pv 0) (pa_cons (pe_op op_add (pe_op op_add (pv 1) pe_int) (pe_op op_mul pe_int (pv 4))) pa_nil)))))
      (pss_one (ps_ret (pe_tup (pa_cons (pv 2) (pa_cons (pe_call (ok_instr T) (hr.mono (by decide)) (by rfl) T.t_instr.g T.t_instr.F.kp T.t_instr.b .nil pass0 (pa_cons (pv 0) (pa_cons (pe_op op_add (pv 1) pe_int) pa_nil))) (pa_cons (pe_call (ok_size T) (hr.mono (by decide)) (by rfl) T.t_size.g T.t_size.F.kp T.t_size.b .nil pass0 (pa_cons (pv 0) (pa_cons (pe_op op_add (pv 1) pe_int) (pa_cons pe_int (pa_cons pe_int pa_nil))))) (pa_cons (pe_callTy call_tuple_of (by rfl) T.B.tuple (by decide +kernel) (pa_cons (pv 3) pa_nil)) pa_nil)))))))), ?_⟩
  have d0 := draw_lo ns k (m := 3) (by decide)
  have d1 := draw_hi ns k (m := 3) (by decide)
  refine q_asgP (eq_lcR1 (ea_cons (ev_draw (ev_var rfl) hS (ev_var rfl) ev_c (by decide)) ea_nil) (by omega) (fun _ => rfl) fun i H1 e1 hi => eq_tempo (ev_var rfl) (ex_l e1 hS) (ev_op (ev_op (ev_var rfl) ev_c rv_I0) (ev_op ev_c (ev_var rfl) (rv_I (.inl ⟨by decide, by decide⟩))) rv_I0)) fun v H1 e1 h1 => ?_
  obtain ⟨p, xs, rfl, h1, hx⟩ := h1
  refine s_retP (ep_tup (S := fun vs _ => ∃ r, vs = .str z :: r ∧ r.length ≤ 3) (fun H2 e2 Q q => eap_cons (ep_of (ev_var rfl)) (eqs_cons (eq_tempo (ev_var rfl) (ex_l e1 hS) (ev_op (ev_var rfl) ev_c rv_I0)) (eqs_cons (eq_of (ev_size (ev_var rfl) (ex_l e1 hS) (ev_op (ev_var rfl) ev_c rv_I0) ev_c ev_c (by decide) (by decide))) (eqs_cons (ep_tupOf (ev_var rfl) (sq_of h1)) eqs_nil))) (fun _ _ _ _ q => q) H2 e2 Q fun vs H3 e3 hv => ?_) (fun vs H2 h => ?_) fun _ _ _ _ q => q) fun v H2 e2 h2 => ?_
  · obtain ⟨y, ys, rfl, rfl, hy⟩ := hv
    exact q _ H3 e3 ⟨ys, rfl, hy⟩
  · obtain ⟨r, rfl, hr⟩ := h
    rw [List.length_cons]; omega
  · obtain ⟨p2, vs, rfl, hp2, r, rfl, _⟩ := h2
    exact q _ H2 (e1.trans e2) ⟨p2, z, r, rfl, st_of hp2⟩
end
end K44
/-! K44Law3: effect, shuffled. -/
namespace K44
open PySem PySem.Spec PyProof.Rows L2 Evl
section
variable {K : PySem.W.Frag} {σ : L2.St} {H H' : Hp} {te ta tb t0 t1 t2 : TE} {tl : TA} {D : Ends} {tz tu : TS} {P R : V → Hp → Prop} {v : V}
/-- a tuple that begins with a word -/
theorem ep_tag {z : Str} {n : Nat} (hz : Ev te σ H (.str z)) (hr : EvQs tl σ H n) (hn : n ≤ 100) : EvP (tTup (tCons te tl)) σ H (fun v H' => ∃ p r, v = .ref p ∧ H' p = some (.tup (.str z :: r))) :=
  ep_imp (ep_tup (S := fun vs _ => ∃ r, vs = .str z :: r ∧ r.length ≤ n) (fun H1 e Q q => eap_cons (ep_of hz) hr (fun _ _ _ _ q => q) H1 e Q fun vs H2 e2 h => by
    obtain ⟨y, ys, rfl, rfl, hy⟩ := h
    exact q _ H2 e2 ⟨ys, rfl, hy⟩) (fun vs _ h => by
    obtain ⟨r, rfl, hr⟩ := h
    rw [List.length_cons]
    omega) fun _ _ _ _ q => q) fun v H1 _ h => by
    obtain ⟨p, vs, rfl, hp, r, rfl, _⟩ := h
    exact ⟨p, r, rfl, hp⟩
theorem what_tag {z : Str} (hz : z ≠ "ahead") (h : ∃ p r, v = .ref p ∧ H p = some (.tup (.str z :: r))) : IsWhat K H v 0 := by
  obtain ⟨p, r, rfl, hp⟩ := h
  exact ⟨p, z, r, rfl, st_of hp, .inr ⟨hz, rfl⟩⟩
def spShuf (K : PySem.W.Frag) : Sp := fun vs H Q _ => ∃ (a : Addr) (ns : List Int) (k : Int) (r : Addr) (xs : List V), vs = [.ref a, .int k, .ref r] ∧ SqL K H a (ns.map V.int) ∧ SqL K H r xs ∧ xs.length ≤ 1000 ∧ ∀ p ys H', Ex H H' → H' p = some (.lst ys) → ys.Perm xs → Q (.ref p) H'
theorem perm_erase {α : Type} : ∀ {l : List α} {i : Nat} {x : α}, l[i]? = some x → (x :: l.eraseIdx i).Perm l
  | a :: r, 0, x, h => by
    have : a = x := by simpa using h
    subst this
    exact List.Perm.refl _
  | a :: r, i + 1, x, h => by
    have ih := perm_erase (l := r) (i := i) (x := x) (by simpa using h)
    rw [List.eraseIdx_cons_succ]
    exact (List.Perm.swap a x _).trans (ih.cons a)
theorem len_eraseIdx {α : Type} {l : List α} {i : Nat} {x : α} (h : l[i]? = some x) : (l.eraseIdx i).length + 1 = l.length := (perm_erase h).length_eq
theorem perm_paired {α β : Type} {F : α → β → Prop} {ps ps' : List α} (h : ps'.Perm ps) : ∀ {ds : List β}, Paired F ps ds → ∃ ds', ds'.Perm ds ∧ Paired F ps' ds' := by
  induction h with
  | nil => intro ds h; exact ⟨ds, List.Perm.refl _, h⟩
  | cons x _ ih =>
    intro ds h
    cases h with
    | cons r t =>
      obtain ⟨ds', h1, h2⟩ := ih t
      exact ⟨_ :: ds', h1.cons _, .cons r h2⟩
  | swap x y l =>
    intro ds h
    cases h with
    | cons r t =>
      cases t with
      | cons r2 t2 => exact ⟨_ :: _ :: _, List.Perm.swap _ _ _, .cons r2 (.cons r t2)⟩
  | trans _ _ ih1 ih2 =>
    intro ds h
    obtain ⟨d1, h1, h2⟩ := ih2 h
    obtain ⟨d2, h3, h4⟩ := ih1 h2
    exact ⟨d2, h3.trans h1, h4⟩
end
section
variable {P : Program} {w : World} {K : PySem.W.Frag} {mg : Str → Option Value} {base : Heap}
theorem ok_effect (T : Tx K mg) : FnOk P w K mg base CX0 3 T.f_effect T.d_effect ["_law_script", "_law_k"] (spEffect K) := by
  refine T.t_effect.F.ok sc_effect (fun vs H Q E h => ?_) (fun cdv A outer s H vs Q E hr h => ?_)
  · obtain ⟨a, ns, k, rfl, _⟩ := h
    rfl
  obtain ⟨a, ns, k, rfl, hS, q⟩ := h
  refine ⟨_, (pss_cons (ps_set (i := 2) sc_effect.nd rfl (.inl rfl) (pe_call (ok_draw T) (hr.mono (by decide)) (by rfl) T.t_draw.g T.t_draw.F.kp T.t_draw.b .nil pass0 (pa_cons (pv 0) (pa_cons (pv 1) (pa_cons pe_int pa_nil)))))
      (pss_cons (ps_if (pt_cmpR op_eq (pv 2) pe_int (nomark _)) (pss_cons (ps_set (i := 3) sc_effect.nd rfl (.inl rfl) (pe_lst pa_nil))
        (pss_cons (ps_set (i := 4) sc_effect.nd rfl (.inl rfl) pe_int)
        (pss_cons (ps_for PassesOwn.never rfl (pi_range1 (by rfl) T.B.range (pa_cons (pe_op op_add pe_int (pe_call (ok_draw T) (hr.mono (by decide)) (by rfl) T.t_draw.g T.t_draw.F.kp T.t_draw.b .nil pass0 (pa_cons (pv 0) (pa_cons (pe_op op_add (pv 1) pe_int) (pa_cons pe_int pa_nil))))) pa_nil)) (pg_name (i := 5) sc_effect.nd rfl (.inl rfl))
          (pss_cons (ps_expr (pe_bm PySem.F.plainAttrs_list PySem.F.slot_list_append PySem.F.type_list_append mt_append (pv 3) (pa_cons (pe_tup (pa_cons (pv 4) (pa_cons (pe_ix (r := rIxL K) ix_list (pe_lst (pa_cons pe_int (pa_cons pe_int (pa_cons pe_int (pa_cons pe_int (pa_cons pe_int (pa_cons pe_int pa_nil))))))) (pe_call (ok_draw T) (hr.mono (by decide)) (by rfl) T.t_draw.g T.t_draw.F.kp T.t_draw.b .nil pass0 (pa_cons (pv 0) (pa_cons (pe_op op_add (pe_op op_add (pv 1) pe_int) (pe_op op_mul pe_int (pv 5))) (pa_cons pe_int pa_nil)))) (fun _ _ => rfl)) pa_nil))) pa_nil)))
          (pss_one (ps_set (i := 4) sc_effect.nd rfl (.inl rfl) (pe_op op_add (pe_op op_add (pv 4) pe_int) (pe_call (ok_draw T) (hr.mono (by decide)) (by rfl) T.t_draw.g T.t_draw.F.kp T.t_draw.b .nil pass0 (pa_cons (pv 0) (pa_cons (pe_op op_add (pe_op op_add (pv 1) pe_int) (pe_op op_mul pe_int (pv 5))) (pa_cons pe_int pa_nil)))))))))
        (pss_one (ps_ret (pe_tup (pa_cons pe_str (pa_cons (pe_callTy call_tuple_of (by rfl) T.B.tuple (by decide +kernel) (pa_cons (pv 3) pa_nil)) pa_nil)))))))) pss_nil)
      (pss_cons (ps_set (i := 6) sc_effect.nd rfl (.inl rfl) (pe_lst (pa_cons pe_int (pa_cons pe_int (pa_cons pe_int (pa_cons pe_int pa_nil))))))
      (pss_cons (ps_if (pt_cmpR op_eq (pv 2) pe_int (nomark _)) (pss_cons (ps_set (i := 7) sc_effect.nd rfl (.inl rfl) (pe_call (ok_size T) (hr.mono (by decide)) (by rfl) T.t_size.g T.t_size.F.kp T.t_size.b .nil pass0 (pa_cons (pv 0) (pa_cons (pe_op op_add (pv 1) pe_int) (pa_cons pe_int (pa_cons pe_int pa_nil))))))
        (pss_one (ps_ret (pe_tup (pa_cons pe_str (pa_cons (pv 7) (pa_cons (pe_ix (r := rIxL K) ix_list (pv 6) (pe_call (ok_draw T) (hr.mono (by decide)) (by rfl) T.t_draw.g T.t_draw.F.kp T.t_draw.b .nil pass0 (pa_cons (pv 0) (pa_cons (pe_op op_add (pv 1) pe_int) (pa_cons pe_int pa_nil)))) (fun _ _ => rfl)) (pa_cons (pe_ix (r := rIxL K) ix_list (pv 6) (pe_call (ok_draw T) (hr.mono (by decide)) (by rfl) T.t_draw.g T.t_draw.F.kp T.t_draw.b .nil pass0 (pa_cons (pv 0) (pa_cons (pe_op op_add (pv 1) pe_int) (pa_cons pe_int pa_nil)))) (fun _ _ => rfl)) pa_nil)))))))) pss_nil)
      (pss_cons (ps_if (pt_cmpR op_eq (pv 2) pe_int (nomark _)) (pss_one (ps_ret (pe_tup (pa_cons pe_str (pa_cons (pe_op op_add pe_int (pe_call (ok_draw T) (hr.mono (by decide)) (by rfl) T.t_draw.g T.t_draw.F.kp T.t_draw.b .nil pass0 (pa_cons (pv 0) (pa_cons (pe_op op_add (pv 1) pe_int) (pa_cons pe_int pa_nil))))) pa_nil))))) pss_nil)
      (pss_cons (ps_if (pt_cmpR op_eq (pv 2) pe_int (nomark _)) (pss_one (ps_ret (pe_tup (pa_cons pe_str pa_nil)))) pss_nil)
      (pss_one (ps_ret (pe_tup (pa_cons pe_str (pa_cons (pe_call (ok_size T) (hr.mono (by decide)) (by rfl) T.t_size.g T.t_size.F.kp T.t_size.b .nil pass0 (pa_cons (pv 0) (pa_cons (pe_op op_add (pv 1) pe_int) (pa_cons pe_int (pa_cons pe_int pa_nil))))) (pa_cons (pe_ix (r := rIxL K) ix_list (pe_lst (pa_cons pe_int (pa_cons pe_int (pa_cons pe_int (pa_cons pe_int pa_nil))))) (pe_call (ok_draw T) (hr.mono (by decide)) (by rfl) T.t_draw.g T.t_draw.F.kp T.t_draw.b .nil pass0 (pa_cons (pv 0) (pa_cons (pe_op op_add (pv 1) pe_int) (pa_cons pe_int pa_nil)))) (fun _ _ => rfl)) pa_nil)))))))))))), ?_⟩
  have dr : ∀ {σ : L2.St} {H1 : Hp} {j m : Int} {E : XK}, Ex H H1 → σ[0]? = some (some (.ref a)) → σ[1]? = some (some (.int k)) → 0 < m → Ev (tCall (spDraw K) [] E (tCons (tVar 0) (tCons (tOp (rI0 fun i j => .int (i + j)) (tVar 1) (tC (.int j))) (tCons (tC (.int m)) tNil)))) σ H1 (.int (draw ns (k + j) m)) := fun e h0 h1 hm =>
    ev_draw (ev_var h0) (ex_l e hS) (ev_op (ev_var h1) ev_c rv_I0) ev_c hm
  refine q_asg (ev_draw (ev_var rfl) hS (ev_var rfl) ev_c (by decide)) fun H1 e1 => ?_
  refine q_when (et_test (ev_op (ev_var rfl) ev_c (rv_eq rfl))) (fun hb H2 e2 => ?_) (fun hb H2 e2 => ?_)
  · have e12 := e1.trans e2
    refine q_asgL (el_lst ea_nil (by show (0 : Nat) ≤ 100000; omega)) fun l H3 hl e3 h3 => ?_
    refine q_asg ev_c fun H4 e4 => ?_
    have e14 := (e12.trans e3).trans e4
    have d0 := draw_lo ns (k + 1) (m := 3) (by decide)
    have d1 := draw_hi ns (k + 1) (m := 3) (by decide)
    refine q_forR1 (n := 1 + draw ns (k + 1) 3) (ea_cons (ev_op ev_c (dr e14 rfl rfl (by decide)) rv_I0) ea_nil) (by omega) (fun i σ' H' => ∃ y2 z y5 xs, σ' = [some (.ref a), some (.int k), y2, some (.ref l), some (.int z), y5, none, none] ∧ Ex H H' ∧ H' l = some (.lst xs) ∧ xs.length ≤ i)
      (fun H5 e5 => ⟨_, _, none, [], rfl, e14.trans e5, (e4.trans e5) l _ h3, Nat.le_refl _⟩) (fun i σ' H5 hi h => ?_) (fun σ' H5 h => ?_)
    · obtain ⟨y2, z, y5, xs, rfl, e5, h5, hx⟩ := h
      have pl : ∀ {σ : L2.St} {H1 : Hp} {j : Int}, σ[1]? = some (some (.int k)) → σ[5]? = some (some (.int (i : Int))) → Ev (tOp (rI0 fun i j => .int (i + j)) (tOp (rI0 fun i j => .int (i + j)) (tVar 1) (tC (.int j))) (tOp (rI CMul fun i j => .int (i * j)) (tC (.int 2)) (tVar 5))) σ H1 (.int (k + j + 2 * (i : Int))) := fun h1 h5 =>
        ev_op (ev_op (ev_var h1) ev_c rv_I0) (ev_op ev_c (ev_var h5) (rv_I (.inl ⟨by decide, by decide⟩))) rv_I0
      have c0 := draw_lo ns (k + 2 + 2 * (i : Int)) (m := 6) (by decide)
      have c1 := draw_hi ns (k + 2 + 2 * (i : Int)) (m := 6) (by decide)
      obtain ⟨g, hg⟩ := at_ints (l := [65536, 0, 30000, 262144, 65535, 1]) c0 c1
      refine q_appP h5 (ev_var rfl) (eq_tup (n := 2) (eqs_cons (eq_of (ev_var rfl)) (eqs_cons (eq_of (ev_pick (xs := ([65536, 0, 30000, 262144, 65535, 1] : List Int).map V.int) (ea_cons ev_c (ea_cons ev_c (ea_cons ev_c (ea_cons ev_c (ea_cons ev_c (ea_cons ev_c ea_nil)))))) (ev_draw (ev_var rfl) (ex_l e5 hS) (pl rfl rfl) ev_c (by decide)) (by decide) hg)) eqs_nil)) (by decide)) (by omega) fun v H6 e6 _ _ => ?_
      have e56 : Ex H (upd H6 l (.lst (xs ++ [v]))) := Ex.mut (e5.trans e6) (fresh_back e12 hl)
      refine s_asg (ev_op (ev_op (ev_var rfl) ev_c rv_I0) (ev_draw (ev_var rfl) (ex_l e56 hS) (pl rfl rfl) ev_c (by decide)) rv_I0) fun H7 e7 => ?_
      refine ⟨_, _, _, _, rfl, e56.trans e7, e7 l _ upd_same, ?_⟩
      rw [List.length_append]
      exact Nat.succ_le_succ hx
    · obtain ⟨y2, z, y5, xs, rfl, e5, h5, hx⟩ := h
      exact s_retP (ep_tag (n := 1) ev_c (eqs_cons (ep_tupOf (ev_var rfl) (sq_of h5)) eqs_nil) (by decide)) fun v H6 e6 h6 => q v H6 (e5.trans e6) ⟨0, what_tag (by decide +kernel) h6⟩
  · have e12 := e1.trans e2
    refine q_asgL (el_lst (ea_cons ev_c (ea_cons ev_c (ea_cons ev_c (ea_cons ev_c ea_nil)))) (by decide)) fun l H3 hl e3 h3 => ?_
    have e13 := e12.trans e3
    have gs : ∀ {σ : L2.St} {H1 : Hp} {j : Int} {E : XK}, Ex H3 H1 → σ[0]? = some (some (.ref a)) → σ[1]? = some (some (.int k)) → σ[6]? = some (some (.ref l)) → ∃ i, Ev (tOp (rIxL K) (tVar 6) (tCall (spDraw K) [] E (tCons (tVar 0) (tCons (tOp (rI0 fun i j => .int (i + j)) (tVar 1) (tC (.int j))) (tCons (tC (.int 4)) tNil))))) σ H1 (.int i) := fun {σ H1 j E} e h0 h1 h6 => by
      obtain ⟨g, hg⟩ := at_ints (l := [0, 30000, 65536, 100000]) (draw_lo ns (k + j) (m := 4) (by decide)) (draw_hi ns (k + j) (m := 4) (by decide))
      exact ⟨g, ev_op (ev_var h6) (dr (e13.trans e) h0 h1 (by decide)) (rv_ixL (xs := ([0, 30000, 65536, 100000] : List Int).map V.int) (sq_of (e l _ h3)) hg)⟩
    refine q_when (et_test (ev_op (ev_var rfl) ev_c (rv_eq rfl))) (fun hb4 H4 e4 => ?_) (fun hb4 H4 e4 => ?_)
    · refine q_asg (ev_size (ev_var rfl) (ex_l (e13.trans e4) hS) (ev_op (ev_var rfl) ev_c rv_I0) ev_c ev_c (by decide) (by decide)) fun H5 e5 => ?_
      refine s_retP (ep_tag (n := 3) ev_c (eqs_cons (eq_of (ev_var rfl)) (eqs_cons (eq_of (gs (e4.trans e5) rfl rfl rfl).choose_spec) (eqs_cons (eq_of (gs (e4.trans e5) rfl rfl rfl).choose_spec) eqs_nil))) (by decide)) fun v H6 e6 h6 => q v H6 (((e13.trans e4).trans e5).trans e6) ⟨0, what_tag (by decide +kernel) h6⟩
    refine q_when (et_test (ev_op (ev_var rfl) ev_c (rv_eq rfl))) (fun hb5 H5 e5 => ?_) (fun hb5 H5 e5 => ?_)
    · exact s_retP (ep_tag (n := 1) ev_c (eqs_cons (eq_of (ev_op ev_c (dr ((e13.trans e4).trans e5) rfl rfl (by decide)) rv_I0)) eqs_nil) (by decide)) fun v H6 e6 h6 => q v H6 (((e13.trans e4).trans e5).trans e6) ⟨0, what_tag (by decide +kernel) h6⟩
    refine q_when (et_test (ev_op (ev_var rfl) ev_c (rv_eq rfl))) (fun hb6 H6 e6 => ?_) (fun hb6 H6 e6 => ?_)
    · exact s_retP (ep_tag (n := 0) ev_c eqs_nil (by decide)) fun v H7 e7 h7 => q v H7 ((((e13.trans e4).trans e5).trans e6).trans e7) ⟨0, what_tag (by decide +kernel) h7⟩
    · have e16 := ((e13.trans e4).trans e5).trans e6
      obtain ⟨g, hg⟩ := at_ints (l := [8388607, 1000000, 3, 8000000]) (draw_lo ns (k + 2) (m := 4) (by decide)) (draw_hi ns (k + 2) (m := 4) (by decide))
      refine s_retU (eu_tup (ea_cons ev_c (ea_cons (ev_size (ev_var rfl) (ex_l e16 hS) (ev_op (ev_var rfl) ev_c rv_I0) ev_c ev_c (by decide) (by decide)) (ea_cons (ev_pick (xs := ([8388607, 1000000, 3, 8000000] : List Int).map V.int) (ea_cons ev_c (ea_cons ev_c (ea_cons ev_c (ea_cons ev_c ea_nil)))) (dr e16 rfl rfl (by decide)) (by decide) hg) ea_nil))) (by show (3 : Nat) ≤ 100000; decide)) fun p H7 hp e7 h7 => q _ H7 (e16.trans e7) ⟨_, p, "ahead", _, rfl, st_of h7, .inl ⟨rfl, _, rfl⟩⟩
theorem ok_shuf (T : Tx K mg) : FnOk P w K mg base CX0 2 T.f_shuf T.d_shuf ["_law_script", "_law_k", "_law_row"] (spShuf K) := by
  refine T.t_shuf.F.ok sc_shuf (fun vs H Q E h => ?_) (fun cdv A outer s H vs Q E hr h => ?_)
  · obtain ⟨a, ns, k, r, xs, rfl, _⟩ := h
    rfl
  obtain ⟨a, ns, k, r, xs, rfl, hS, hR, hz, q⟩ := h
  refine ⟨_, (pss_cons (ps_set (i := 3) sc_shuf.nd rfl (.inl rfl) (pe_callTy call_list_of (by rfl) T.B.list (by decide +kernel) (pa_cons (pv 2) pa_nil)))
      (pss_cons (ps_set (i := 4) sc_shuf.nd rfl (.inl rfl) (pe_lst pa_nil))
      (pss_cons (ps_for PassesOwn.never rfl (pi_range1 (by rfl) T.B.range (pa_cons (pe_callB call_len_seq (by rfl) T.B.len PySem.boot_len (pa_cons (pv 2) pa_nil)) pa_nil)) (pg_name (i := 5) sc_shuf.nd rfl (.inl rfl))
        (pss_one (ps_expr (pe_bm PySem.F.plainAttrs_list PySem.F.slot_list_append PySem.F.type_list_append mt_append (pv 4) (pa_cons (pe_bm PySem.F.plainAttrs_list PySem.F.slot_list_pop PySem.F.type_list_pop mt_popAt (pv 3) (pa_cons (pe_call (ok_draw T) (hr.mono (by decide)) (by rfl) T.t_draw.g T.t_draw.F.kp T.t_draw.b .nil pass0 (pa_cons (pv 0) (pa_cons (pe_op op_add (pv 1) (pv 5)) (pa_cons (pe_callB call_len_seq (by rfl) T.B.len PySem.boot_len (pa_cons (pv 3) pa_nil)) pa_nil)))) pa_nil)) pa_nil)))))
      (pss_one (ps_ret (pv 4)))))), ?_⟩
  refine q_asgL (el_list (ev_var rfl) hR) fun re H1 hre e1 h1 => ?_
  refine q_asgL (el_lst ea_nil (by show (0 : Nat) ≤ 100000; omega)) fun fo H2 hfo e2 h2 => ?_
  have e12 := e1.trans e2
  have hfoH : H fo = none := fresh_back e1 hfo
  have hne : re ≠ fo := ne_of_none h1 hfo
  refine q_forR1 (n := (xs.length : Int)) (ea_cons (ev_len (ev_var rfl) (ex_l e12 hR)) ea_nil) (by omega) (fun i σ' H' => ∃ y5 rs fs, σ' = [some (.ref a), some (.int k), some (.ref r), some (.ref re), some (.ref fo), y5] ∧ Ex H H' ∧ H' re = some (.lst rs) ∧ H' fo = some (.lst fs) ∧ (fs ++ rs).Perm xs ∧ rs.length + i = xs.length)
    (fun H3 e3 => ⟨none, xs, [], rfl, e12.trans e3, (e2.trans e3) re _ h1, e3 fo _ h2, List.Perm.refl _, rfl⟩) (fun i σ' H3 hi h => ?_) (fun σ' H3 h => ?_)
  · obtain ⟨y5, rs, fs, rfl, e3, hre3, hfo3, hpm, hln⟩ := h
    have hlr : 0 < (rs.length : Int) := by omega
    have d0 := draw_lo ns (k + (i : Int)) (m := (rs.length : Int)) hlr
    have d1 := draw_hi ns (k + (i : Int)) (m := (rs.length : Int)) hlr
    generalize hd : draw ns (k + (i : Int)) (rs.length : Int) = dd at d0 d1
    have hlt : dd.toNat < rs.length := by omega
    have hy : rs[dd.toNat]? = some rs[dd.toNat] := List.getElem?_eq_getElem hlt
    have hsx : seqIndex? dd rs.length = some dd.toNat := by
      have := (ixN_seq (ixN_nat hlt)).1
      rw [show ((dd.toNat : Nat) : Int) = dd by omega] at this
      exact this
    refine ⟨.ref fo, rfl, .inl ⟨rfl, _, SqL.of hfo3⟩, .ref re, rfl, .inl ⟨rfl, _, SqL.of hre3⟩, ev_draw (ns := ns) (k := k + (i : Int)) (m := (rs.length : Int)) (ev_var rfl) (ex_l e3 hS) (ev_op (ev_var rfl) (ev_var rfl) rv_I0) (ev_len (ev_var rfl) (sq_of hre3)) hlr H3 (Ex.refl H3) _ fun H4 e4 => ?_⟩
    refine ⟨re, rs, dd, dd.toNat, rs[dd.toNat], rfl, by rw [hd], e4 re _ hre3, by omega, by omega, hsx, hy, fo, fs, rs[dd.toNat], rfl, rfl, ?_, ?_, ?_⟩
    · rw [upd_ne hne.symm]; exact e4 fo _ hfo3
    · have := hpm.length_eq
      rw [List.length_append] at this
      exact small1000 (by omega)
    · refine ⟨_, rs.eraseIdx dd.toNat, fs ++ [rs[dd.toNat]], rfl, Ex.mut (Ex.mut (e3.trans e4) hre) hfoH, ?_, upd_same, ?_, ?_⟩
      · rw [upd_ne hne, upd_same]
      · rw [List.append_assoc]
        exact (((perm_erase hy)).append_left fs).trans hpm
      · have := len_eraseIdx hy
        omega
  · obtain ⟨y5, rs, fs, rfl, e3, hre3, hfo3, hpm, hln⟩ := h
    have hrs : rs = [] := List.eq_nil_of_length_eq_zero (by have : ((xs.length : Int)).toNat = xs.length := by omega
                                                            omega)
    subst hrs
    rw [List.append_nil] at hpm
    exact s_ret (ev_var rfl) fun H4 e4 => q fo fs H4 (e3.trans e4) (e4 fo _ hfo3) hpm
end
end K44
/-! K44Law4: the drawn net. -/
namespace K44
open PySem PySem.Spec PyProof.Rows L2 Evl
/-- a name's first sign -/
def rk (z : Str) : Nat := (z.cps[0]?).getD 0
theorem rk_name (ns : List Int) (k : Int) (c : Nat) : rk (nameM ns k ⟨#[c]⟩) = c := by
  unfold rk nameM
  show (((#[c] : Array Nat) ++ (pickS sfx (draw ns k 4)).cps)[0]?).getD 0 = c
  rw [Array.getElem?_append_left (by show (0 : Nat) < 1; decide)]
  rfl
theorem at_ijk : ∀ i : Nat, i < 3 → atI (("ijk" : Str).cps.toList) (i : Int) = some (105 + i) := by decide +kernel
theorem at_lmno : ∀ i : Nat, i < 4 → atI (("lmno" : Str).cps.toList) (i : Int) = some (108 + i) := by decide +kernel
theorem at_ps : ∀ i : Nat, i < 2 → ∃ c, atI (("ps" : Str).cps.toList) (i : Int) = some c := fun i h => by
  have : i = 0 ∨ i = 1 := by omega
  rcases this with rfl | rfl
  · exact ⟨112, by decide +kernel⟩
  · exact ⟨115, by decide +kernel⟩
theorem paired_snoc {α β : Type} {F : α → β → Prop} : ∀ {l : List α} {m : List β}, Paired F l m → ∀ {x : α} {y : β}, F x y → Paired F (l ++ [x]) (m ++ [y])
  | _, _, .nil, _, _, h => .cons h .nil
  | _, _, .cons r t, _, _, h => .cons r (paired_snoc t h)
theorem paired_get {α β : Type} {F : α → β → Prop} {l : List α} {m : List β} (h : Paired F l m) {i : Nat} (hi : i < l.length) : ∃ x y, l[i]? = some x ∧ m[i]? = some y ∧ F x y := by
  obtain ⟨y, h1, h2⟩ := paired_at h (List.getElem?_eq_getElem hi)
  exact ⟨_, y, List.getElem?_eq_getElem hi, h1, h2⟩
section
variable {K : PySem.W.Frag} {H H' : Hp} {v : V}
theorem TrackAt.ex (e : Ex H H') (h : TrackAt K H v) : TrackAt K H' v := by
  obtain ⟨p, z, r, h1, h2⟩ := h
  exact ⟨p, z, r, h1, ex_t e h2⟩
def NetAt (K : PySem.W.Frag) (H : Hp) (pn pl : Addr) (nds : List (Str × Int)) (ls : List (Str × Str)) : Prop := Nodes K H pn nds ∧ Lines K H pl ls ∧ Rises rk (nds.map (·.1)) ls
def spNet (K : PySem.W.Frag) : Sp := fun vs H Q _ => ∃ (a : Addr) (ns : List Int) (k : Int) (t : Addr) (ts : List V), vs = [.ref a, .int k, .ref t, .bl false] ∧ SqL K H a (ns.map V.int) ∧ SqL K H t ts ∧ 0 < ts.length ∧ ts.length ≤ 2 ∧ (∀ v ∈ ts, TrackAt K H v) ∧
  ∀ p pn pl nds ls H', Ex H H' → H' p = some (.tup [.ref pn, .ref pl]) → NetAt K H' pn pl nds ls → Q (.ref p) H'
end
section
variable {P : Program} {w : World} {K : PySem.W.Frag} {mg : Str → Option Value} {base : Heap}
theorem ok_net (T : Tx K mg) : FnOk P w K mg base CX0 4 T.f_net T.d_net ["_law_script", "_law_k", "_law_tracks", "_law_plain"] (spNet K) := by
  refine T.t_net.F.ok sc_net (fun vs H Q E h => ?_) (fun cdv A outer s H vs Q E hr h => ?_)
  · obtain ⟨a, ns, k, t, ts, rfl, _⟩ := h
    rfl
  obtain ⟨a, ns, k, t, ts, rfl, hS, hT, ht0, ht2, htr, q⟩ := h
  refine ⟨_, (pss_cons (ps_set (i := 4) sc_net.nd rfl (.inl rfl) (pe_lst pa_nil))
      (pss_cons (ps_for PassesOwn.never rfl (pi_range1 (by rfl) T.B.range (pa_cons (pe_op op_add (pe_callB call_len_seq (by rfl) T.B.len PySem.boot_len (pa_cons (pv 2) pa_nil)) (pe_callTy call_int1 (by rfl) T.B.int (by decide +kernel) (pa_cons (pe_cmpR op_eq (pe_call (ok_draw T) (hr.mono (by decide)) (by rfl) T.t_draw.g T.t_draw.F.kp T.t_draw.b .nil pass0 (pa_cons (pv 0) (pa_cons (pe_op op_add (pv 1) pe_int) (pa_cons pe_int pa_nil)))) pe_int (nomark _)) pa_nil))) pa_nil)) (pg_name (i := 5) sc_net.nd rfl (.inl rfl))
        (pss_cons (ps_set (i := 6) sc_net.nd rfl (.inl rfl) (pe_ix (r := rIxL K) ix_list (pv 2) (pe_call (ok_draw T) (hr.mono (by decide)) (by rfl) T.t_draw.g T.t_draw.F.kp T.t_draw.b .nil pass0 (pa_cons (pv 0) (pa_cons (pe_op op_add (pe_op op_add (pv 1) pe_int) (pv 5)) (pa_cons (pe_callB call_len_seq (by rfl) T.B.len PySem.boot_len (pa_cons (pv 2) pa_nil)) pa_nil)))) (fun _ _ => rfl)))
        (pss_cut (ps_if (PW.pt (pw_and (pt_cmpR op_gt (pe_call (ok_draw T) (hr.mono (by decide)) (by rfl) T.t_draw.g T.t_draw.F.kp T.t_draw.b .nil pass0 (pa_cons (pv 0) (pa_cons (pe_op op_add (pv 1) pe_int) (pa_cons pe_int pa_nil)))) pe_int (nomark _)) (pw_and1 (pt_cmpR op_lt (pv 5) (pe_callB call_len_seq (by rfl) T.B.len PySem.boot_len (pa_cons (pv 2) pa_nil)) (nomark _))))) (pss_one (ps_set (i := 6) sc_net.nd rfl (.inl rfl) (pe_ix (r := rIxL K) ix_list (pv 2) (pv 5) (fun _ _ => rfl)))) pss_nil)
        (pss_one (ps_expr (pe_bm PySem.F.plainAttrs_list PySem.F.slot_list_append PySem.F.type_list_append mt_append (pv 4) (pa_cons (pe_tup (pa_cons (pe_call (ok_name T) (hr.mono (by decide)) (by rfl) T.t_name.g T.t_name.F.kp T.t_name.b .nil pass0 (pa_cons (pv 0) (pa_cons (pe_op op_add (pe_op op_add (pv 1) pe_int) (pv 5)) (pa_cons (pe_ix ix_str pe_str (pv 5) (fun _ _ => rfl)) pa_nil)))) (pa_cons (pe_tup (pa_cons pe_str (pa_cons (pe_ix (r := rIxT K) ix_tup (pv 6) pe_int (fun _ _ => rfl)) pa_nil))) pa_nil))) pa_nil)))))))
      (pss_cons (ps_set (i := 7) sc_net.nd rfl (.inl rfl) (pe_lst pa_nil))
      (pss_cons (ps_set (i := 8) sc_net.nd rfl (.inl rfl) (pe_call (ok_draw T) (hr.mono (by decide)) (by rfl) T.t_draw.g T.t_draw.F.kp T.t_draw.b .nil pass0 (pa_cons (pv 0) (pa_cons (pv 1) (pa_cons pe_int pa_nil)))))
      (pss_cons (ps_for PassesOwn.never rfl (pi_range1 (by rfl) T.B.range (pa_cons (pe_op op_add (pv 8) pe_int) pa_nil)) (pg_name (i := 5) sc_net.nd rfl (.inl rfl))
        (pss_cons (ps_set (i := 9) sc_net.nd rfl (.inl rfl) (pe_op op_add (pe_op op_add (pv 1) pe_int) (pe_op op_mul pe_int (pv 5))))
        (pss_cons (ps_set (i := 10) sc_net.nd rfl (.inl rfl) (pe_call (ok_name T) (hr.mono (by decide)) (by rfl) T.t_name.g T.t_name.F.kp T.t_name.b .nil pass0 (pa_cons (pv 0) (pa_cons (pe_op op_add (pe_op op_add (pv 1) pe_int) (pv 5)) (pa_cons (pe_ix ix_str pe_str (pv 5) (fun _ _ => rfl)) pa_nil)))))
        (pss_cons (ps_set (i := 11) sc_net.nd rfl (.inl rfl) (pe_tup (pa_cons pe_str pa_nil)))
        (pss_cut (ps_if (pt_cmpR op_eq (pv 5) (pv 8) (nomark _)) (pss_one (ps_set (i := 11) sc_net.nd rfl (.inl rfl) (pe_tup (pa_cons pe_str pa_nil)))) (pss_one (ps_if (pt_cmpR op_gt (pe_call (ok_draw T) (hr.mono (by decide)) (by rfl) T.t_draw.g T.t_draw.F.kp T.t_draw.b .nil pass0 (pa_cons (pv 0) (pa_cons (pv 9) (pa_cons pe_int pa_nil)))) pe_int (nomark _)) (pss_cons (ps_set (i := 11) sc_net.nd rfl (.inl rfl) (pe_call (ok_effect T) (hr.mono (by decide)) (by rfl) T.t_effect.g T.t_effect.F.kp T.t_effect.b .nil pass0 (pa_cons (pv 0) (pa_cons (pe_op op_add (pv 9) pe_int) pa_nil))))
            (pss_one (ps_if (pt_val (pv 3)) (pss_one (ps_set (i := 11) sc_net.nd rfl (.inl rfl) (pe_ix (r := rIxL K) ix_list (pe_lst (pa_cons (pe_tup (pa_cons pe_str pa_nil)) (pa_cons (pe_tup (pa_cons pe_str (pa_cons (pe_call (ok_size T) (hr.mono (by decide)) (by rfl) T.t_size.g T.t_size.F.kp T.t_size.b .nil pass0 (pa_cons (pv 0) (pa_cons (pe_op op_add (pv 9) pe_int) (pa_cons pe_int (pa_cons pe_int pa_nil))))) (pa_cons pe_int pa_nil)))) pa_nil))) (pe_call (ok_draw T) (hr.mono (by decide)) (by rfl) T.t_draw.g T.t_draw.F.kp T.t_draw.b .nil pass0 (pa_cons (pv 0) (pa_cons (pe_op op_add (pv 9) pe_int) (pa_cons pe_int pa_nil)))) (fun _ _ => rfl)))) pss_nil))) pss_nil)))
        (pss_cons (ps_for PassesOwn.never rfl (pi_range1 (by rfl) T.B.range (pa_cons (pe_callB call_len_seq (by rfl) T.B.len PySem.boot_len (pa_cons (pv 4) pa_nil)) pa_nil)) (pg_name (i := 12) sc_net.nd rfl (.inl rfl))
          (pss_one (ps_if (PW.pt (pw_or (pt_cmpR op_eq (pe_call (ok_draw T) (hr.mono (by decide)) (by rfl) T.t_draw.g T.t_draw.F.kp T.t_draw.b .nil pass0 (pa_cons (pv 0) (pa_cons (pe_op op_add (pe_op op_add (pv 9) pe_int) (pv 12)) (pa_cons pe_int pa_nil)))) pe_int (nomark _)) (pw_or1 (PW.pt (pw_and (pt_cmpR op_eq (pv 5) (pv 8) (nomark _)) (pw_and1 (pt_cmpR op_eq (pe_op op_add (pv 12) pe_int) (pe_callB call_len_seq (by rfl) T.B.len PySem.boot_len (pa_cons (pv 4) pa_nil)) (nomark _)))))))) (pss_one (ps_expr (pe_bm PySem.F.plainAttrs_list PySem.F.slot_list_append PySem.F.type_list_append mt_append (pv 7) (pa_cons (pe_tup (pa_cons (pe_ix (r := rIxT K) ix_tup (pe_ix (r := rIxL K) ix_list (pv 4) (pv 12) (fun _ _ => rfl)) pe_int (fun _ _ => rfl)) (pa_cons (pv 10) pa_nil))) pa_nil)))) pss_nil)))
        (pss_one (ps_expr (pe_bm PySem.F.plainAttrs_list PySem.F.slot_list_append PySem.F.type_list_append mt_append (pv 4) (pa_cons (pe_tup (pa_cons (pv 10) (pa_cons (pv 11) pa_nil))) pa_nil))))))))))
      (pss_one (ps_ret (pe_tup (pa_cons (pv 4) (pa_cons (pv 7) pa_nil)))))))))), ?_⟩
  refine q_asgL (el_lst ea_nil (by show (0 : Nat) ≤ 100000; omega)) fun l H1 hl e1 h1 => ?_
  have hn0 : 0 ≤ (ts.length : Int) + (if decide (V.int (draw ns (k + 60) 4) = V.int 0) = true then 1 else 0) ∧ (ts.length : Int) + (if decide (V.int (draw ns (k + 60) 4) = V.int 0) = true then 1 else 0) ≤ 3 := by
    split <;> omega
  -- the tracks' nodes
  refine q_forR1 (n := (ts.length : Int) + (if decide (V.int (draw ns (k + 60) 4) = V.int 0) = true then 1 else 0)) (ea_cons (ev_op (ev_len (ev_var rfl) (ex_l e1 hT)) (ev_intB (ev_op (ev_draw (ev_var rfl) (ex_l e1 hS) (ev_op (ev_var rfl) ev_c rv_I0) ev_c (by decide)) ev_c (rv_eq rfl))) rv_I0) ea_nil) ⟨hn0.1, by omega⟩
    (fun i σ' H' => ∃ y5 y6 ps nds, σ' = [some (.ref a), some (.int k), some (.ref t), some (.bl false), some (.ref l), y5, y6, none, none, none, none, none, none] ∧ Ex H H' ∧ H' l = some (.lst ps) ∧ Paired (NodeAt K H') ps nds ∧ nds.length = i ∧ ∀ d ∈ nds, rk d.1 < 105 + i)
    (fun H2 e2 => ⟨none, none, [], [], rfl, e1.trans e2, e2 l _ h1, .nil, rfl, fun d hd => by simp at hd⟩) (fun i σ' H2 hi h => ?_) (fun σ' H2 h => ?_)
  · obtain ⟨y5, y6, ps, nds, rfl, e2, h2, hp2, hlen, hrk⟩ := h
    have hi3 : i < 3 := by omega
    have d0 := draw_lo ns (k + 61 + (i : Int)) (m := (ts.length : Int)) (by omega)
    have d1 := draw_hi ns (k + 61 + (i : Int)) (m := (ts.length : Int)) (by omega)
    have hat : atI ts (draw ns (k + 61 + (i : Int)) (ts.length : Int)) = some (ts[(draw ns (k + 61 + (i : Int)) (ts.length : Int)).toNat]'(by omega)) := at_of (j := (draw ns (k + 61 + (i : Int)) (ts.length : Int)).toNat) (by omega) (List.getElem?_eq_getElem (by omega))
    refine q_asg (ev_op (ev_var rfl) (ev_draw (ev_var rfl) (ex_l e2 hS) (ev_op (ev_op (ev_var rfl) ev_c rv_I0) (ev_var rfl) rv_I0) (ev_len (ev_var rfl) (ex_l e2 hT)) (by omega)) (rv_ixL (ex_l e2 hT) hat)) fun H3 e3 => ?_
    have e13 := e2.trans e3
    refine q_cut (M := fun σ' H' => ∃ v, σ' = [some (.ref a), some (.int k), some (.ref t), some (.bl false), some (.ref l), some (.int (i : Int)), some v, none, none, none, none, none, none] ∧ Ex H3 H' ∧ TrackAt K H v) ?_ fun σ' H4 h => ?_
    · refine s_when (et_and (et_test (ev_op (ev_draw (ev_var rfl) (ex_l e13 hS) (ev_op (ev_var rfl) ev_c rv_I0) ev_c (by decide)) ev_c rv_I0)) fun _ => et_test (ev_op (ev_var rfl) (ev_len (ev_var rfl) (ex_l e13 hT)) rv_I0)) (fun hb H4 e4 => ?_) (fun hb H4 e4 => ?_)
      · have hlt := of_decide_eq_true (Bool.and_eq_true_iff.mp hb).2
        have hlt : i < ts.length := by omega
        exact s_asg (ev_op (ev_var rfl) (ev_var rfl) (rv_ixL (ex_l (e13.trans e4) hT) (atI_nat (List.getElem?_eq_getElem hlt)))) fun H5 e5 => ⟨_, rfl, e4.trans e5, htr _ (List.getElem_mem hlt)⟩
      · exact ⟨_, rfl, e4, htr _ (List.getElem_mem _)⟩
    · obtain ⟨v, rfl, e4, p, z, r, rfl, htv⟩ := h
      have e14 := e13.trans e4
      refine s_appP (P := fun v H' => NodeAt K H' v (nameM ns (k + 65 + (i : Int)) ⟨#[105 + i]⟩, 0)) ((e3.trans e4) l _ h2) (ev_var rfl) (ep_imp (ep_tup (S := fun vs H' => ∃ w', vs = [.str (nameM ns (k + 65 + (i : Int)) ⟨#[105 + i]⟩), w'] ∧ IsWhat K H' w' 0) (fun H5 e5 Q q => eap_cons (ep_of (ev_name (ns := ns) (k := k + 65 + (i : Int)) (z := ⟨#[105 + i]⟩) (ev_var rfl) (ex_l e14 hS) (ev_op (ev_op (ev_var rfl) ev_c rv_I0) (ev_var rfl) rv_I0) (ev_op ev_c (ev_var rfl) (rv_ixS (by decide +kernel) (at_ijk i hi3))) (by show (1 : Nat) ≤ 100; decide)))
          (eap_cons (P := fun v H' => IsWhat K H' v 0) (ep_imp (ep_tag (z := "track") (n := 1) ev_c (eqs_cons (eq_of (ix0 rfl (ex_t e14 htv))) eqs_nil) (by decide)) fun v H6 _ h => what_tag (by decide +kernel) h) eap_nil fun v Ha Hb e h => h.tx (.of e)) (fun _ _ _ _ q => q) H5 e5 Q fun vs H6 e6 h => ?_) (fun vs H5 h => ?_) (fun vs Ha Hb e h => ?_)) fun v H5 e5 h => ?_) (by rw [Paired.length hp2]; omega) fun v H5 e5 hv h5 => ?_
      · obtain ⟨y, ys, rfl, rfl, y2, ys2, rfl, hw, rfl⟩ := h
        exact q _ H6 e6 ⟨y2, rfl, hw⟩
      · obtain ⟨w', rfl, _⟩ := h
        show (2 : Nat) ≤ 100000
        decide
      · obtain ⟨w', rfl, hw⟩ := h
        exact ⟨w', rfl, hw.tx (.of e)⟩
      · obtain ⟨p2, vs, rfl, hp2, w', rfl, hw⟩ := h
        exact ⟨p2, w', rfl, st_of hp2, hw⟩
      · have tx : Tx1 K H5 (upd H5 l (.lst (ps ++ [v]))) := Tx1.put h5
        refine ⟨_, _, _, nds ++ [(nameM ns (k + 65 + (i : Int)) ⟨#[105 + i]⟩, 0)], rfl, Ex.mut (e14.trans e5) hl, upd_same, paired_snoc (Paired.mapP hp2 fun _ _ q => q.tx ((Tx1.of ((e3.trans e4).trans e5)).trans tx)) (hv.tx tx), by rw [List.length_append, hlen]; rfl, fun d hd => ?_⟩
        rcases List.mem_append.mp hd with hd | hd
        · have := hrk d hd
          omega
        · rw [List.mem_singleton.mp hd]
          show rk (nameM ns (k + 65 + (i : Int)) ⟨#[105 + i]⟩) < 105 + (i + 1)
          rw [rk_name]
          omega
  obtain ⟨y5, y6, ps0, nds0, rfl, e2, h2, hp2, hlen0, hrk0⟩ := h
  -- lines = []
  refine q_asgL (el_lst ea_nil (by show (0 : Nat) ≤ 100000; omega)) fun m H3 hm e3 h3 => ?_
  have hlm : l ≠ m := ne_of_none h2 hm
  have hmH : H m = none := fresh_back e2 hm
  refine q_asg (ev_draw (ev_var rfl) (ex_l (e2.trans e3) hS) (ev_var rfl) ev_c (by decide)) fun H4 e4 => ?_
  have c0 := draw_lo ns k (m := 4) (by decide)
  have c1 := draw_hi ns k (m := 4) (by decide)
  generalize hcount : draw ns k 4 = count at *
  refine q_forR1 (n := count + 1) (ea_cons (ev_op (ev_var rfl) ev_c rv_I0) ea_nil) (by omega)
    (fun j σ' H' => ∃ y5 y6 y9 y10 y11 y12 ps nds qs ls, σ' = [some (.ref a), some (.int k), some (.ref t), some (.bl false), some (.ref l), y5, y6, some (.ref m), some (.int count), y9, y10, y11, y12] ∧ Ex H H' ∧ H' l = some (.lst ps) ∧ H' m = some (.lst qs) ∧ Paired (NodeAt K H') ps nds ∧ Paired (LineAt K H') qs ls ∧ nds.length ≤ 3 + j ∧ ls.length ≤ 10 * j ∧ (∀ d ∈ nds, rk d.1 < 108 + j) ∧ Rises rk (nds.map (·.1)) ls)
    (fun H5 e5 => ⟨_, _, none, none, none, none, ps0, nds0, [], [], rfl, ((e2.trans e3).trans e4).trans e5, ((e3.trans e4).trans e5) l _ h2, (e4.trans e5) m _ h3, Paired.mapP hp2 fun _ _ q => q.tx (.of ((e3.trans e4).trans e5)), .nil, by omega, Nat.le_refl _, fun d hd => by have := hrk0 d hd; omega, ⟨fun l h => by simp at h, fun l h => by simp at h, fun l h => by simp at h⟩⟩) (fun j σ' H5 hj h => ?_) (fun σ' H5 h => ?_)
  · obtain ⟨y5, y6, y9, y10, y11, y12, ps, nds, qs, ls, rfl, e5, h5l, h5m, hps, hqs, hnl, hll, hrk, hR⟩ := h
    have hj4 : j < 4 := by omega
    refine q_asg (ev_op (ev_op (ev_var rfl) ev_c rv_I0) (ev_op ev_c (ev_var rfl) (rv_I (.inl ⟨by decide, by decide⟩))) rv_I0) fun H6 e6 => ?_
    refine q_asg (ev_name (ns := ns) (k := k + 69 + (j : Int)) (z := ⟨#[108 + j]⟩) (ev_var rfl) (ex_l (e5.trans e6) hS) (ev_op (ev_op (ev_var rfl) ev_c rv_I0) (ev_var rfl) rv_I0) (ev_op ev_c (ev_var rfl) (rv_ixS (by decide +kernel) (at_lmno j hj4))) (by show (1 : Nat) ≤ 100; decide)) fun H7 e7 => ?_
    generalize hnm : nameM ns (k + 69 + (j : Int)) ⟨#[108 + j]⟩ = nm
    have hrn : rk nm = 108 + j := by rw [← hnm, rk_name]
    refine q_asgP (ep_tag (z := "bus") (n := 0) ev_c eqs_nil (by decide)) fun w0 H8 e8 hw0 => ?_
    have hw0 := what_tag (K := K) (show ("bus" : Str) ≠ "ahead" by decide +kernel) hw0
    have e58 := (e6.trans e7).trans e8
    have e18 := e5.trans e58
    refine q_cut (M := fun σ' H' => ∃ w' lat, σ' = [some (.ref a), some (.int k), some (.ref t), some (.bl false), some (.ref l), some (.int (j : Int)), y6, some (.ref m), some (.int count), some (.int (k + 2 + 14 * (j : Int))), some (.str nm), some w', y12] ∧ Ex H8 H' ∧ IsWhat K H' w' lat) ?_ fun σ' H9 h => ?_
    · refine s_if (et_test (ev_op (ev_var rfl) (ev_var rfl) (rv_eq rfl))) (fun hb H9 e9 => ?_) (fun hb H9 e9 => ?_)
      · exact s_asgP (ep_tag (z := "output") (n := 0) ev_c eqs_nil (by decide)) fun w1 H10 e10 hw1 => ⟨w1, 0, rfl, e9.trans e10, what_tag (by decide +kernel) hw1⟩
      · refine s_when (et_test (ev_op (ev_draw (ev_var rfl) (ex_l (e18.trans e9) hS) (ev_var rfl) ev_c (by decide)) ev_c rv_I0)) (fun hb H10 e10 => ?_) (fun hb H10 e10 => ?_)
        · refine q_asgP (P := fun v H' => ∃ lat, IsWhat K H' v lat) (ep_call (ea_cons (ev_var rfl) (ea_cons (ev_op (ev_var rfl) ev_c rv_I0) ea_nil)) fun H11 e11 Q q E => ⟨a, ns, _, rfl, ex_l (((e18.trans e9).trans e10).trans e11) hS, fun v H12 e12 hv => q v H12 e12 hv⟩) fun w1 H11 e11 hw1 => ?_
          obtain ⟨lat, hw1⟩ := hw1
          refine s_when (b := false) (et_B (ev_var rfl)) (fun hb H12 e12 => Bool.noConfusion hb) (fun hb H12 e12 => ?_)
          exact ⟨w1, lat, rfl, ((e9.trans e10).trans e11).trans e12, hw1.tx (.of e12)⟩
        · exact ⟨w0, 0, rfl, e9.trans e10, hw0.tx (.of (e9.trans e10))⟩
    obtain ⟨w', lat, rfl, e9, hw⟩ := h
    have e59 := e58.trans e9
    have hpl := Paired.length hps
    -- the lines to the new node
    refine q_forR1 (n := (ps.length : Int)) (ea_cons (ev_len (ev_var rfl) (sq_of (e59 l _ h5l))) ea_nil) (by omega)
      (fun i σ' H' => ∃ y12 qs ls, σ' = [some (.ref a), some (.int k), some (.ref t), some (.bl false), some (.ref l), some (.int (j : Int)), y6, some (.ref m), some (.int count), some (.int (k + 2 + 14 * (j : Int))), some (.str nm), some w', y12] ∧ Ex H H' ∧ H' l = some (.lst ps) ∧ H' m = some (.lst qs) ∧ Paired (NodeAt K H') ps nds ∧ Paired (LineAt K H') qs ls ∧ IsWhat K H' w' lat ∧ ls.length ≤ 10 * j + i ∧ Rises rk (nds.map (·.1) ++ [nm]) ls)
      (fun H10 e10 => ⟨_, qs, ls, rfl, (e5.trans e59).trans e10, (e59.trans e10) l _ h5l, (e59.trans e10) m _ h5m, Paired.mapP hps fun _ _ q => q.tx (.of (e59.trans e10)), Paired.mapP hqs fun _ _ q => q.tx (.of (e59.trans e10)), hw.tx (.of e10), hll, ⟨fun x h => List.mem_append_left _ (hR.fst x h), fun x h => List.mem_append_left _ (hR.snd x h), hR.up⟩⟩) (fun i σ' H10 hi h => ?_) (fun σ' H10 h => ?_)
    · obtain ⟨y12, qs, ls, rfl, e10, hl10, hm10, hps10, hqs10, hw10, hll10, hR10⟩ := h
      have hi6 : i < ps.length := by omega
      obtain ⟨x, d, hx, hd, p, w2, rfl, hpT, _⟩ := paired_get hps10 hi6
      refine s_when (et_or (et_test (ev_op (ev_draw (ev_var rfl) (ex_l e10 hS) (ev_op (ev_op (ev_var rfl) ev_c rv_I0) (ev_var rfl) rv_I0) ev_c (by decide)) ev_c (rv_eq rfl))) fun _ => et_and (et_test (ev_op (ev_var rfl) (ev_var rfl) (rv_eq rfl))) fun _ => et_test (ev_op (ev_op (ev_var rfl) ev_c rv_I0) (ev_len (ev_var rfl) (sq_of hl10)) (rv_eq rfl))) (fun hb H11 e11 => ?_) (fun hb H11 e11 => ?_)
      · refine s_appU (ys := [.str d.1, .str nm]) (e11 m _ hm10) (ev_var rfl) (eu_tup (ea_cons (ev_op (ev_op (ev_var rfl) (ev_var rfl) (rv_ixL (sq_of (e11 l _ hl10)) (atI_nat hx))) ev_c (rv_ixT (ex_t e11 hpT) (atI_nat (j := 0) rfl))) (ea_cons (ev_var rfl) ea_nil)) (by show (2 : Nat) ≤ 100000; decide)) (by rw [Paired.length hqs10]; omega) fun p2 H12 hp2' e12 h12 => ?_
        have e1112 := e11.trans e12
        have tx : Tx1 K H12 (upd H12 m (.lst (qs ++ [.ref p2]))) := Tx1.put (e1112 m _ hm10)
        have txx := (Tx1.of (K := K) e1112).trans tx
        refine ⟨_, qs ++ [.ref p2], ls ++ [(d.1, nm)], rfl, Ex.mut (e10.trans e1112) hmH, ?_, upd_same, Paired.mapP hps10 fun _ _ q => q.tx txx, paired_snoc (Paired.mapP hqs10 fun _ _ q => q.tx txx) ⟨p2, rfl, tx _ _ (st_of h12)⟩, hw10.tx txx, by rw [List.length_append]; show ls.length + 1 ≤ _; omega, ⟨fun z hz => ?_, fun z hz => ?_, fun z hz => ?_⟩⟩
        · rw [upd_ne hlm]; exact e1112 l _ hl10
        · rcases List.mem_append.mp hz with hz | hz
          · exact hR10.fst z hz
          · rw [List.mem_singleton.mp hz]
            exact List.mem_append_left _ (List.mem_map.mpr ⟨d, List.mem_of_getElem? hd, rfl⟩)
        · rcases List.mem_append.mp hz with hz | hz
          · exact hR10.snd z hz
          · rw [List.mem_singleton.mp hz]
            exact List.mem_append_right _ List.mem_cons_self
        · rcases List.mem_append.mp hz with hz | hz
          · exact hR10.up z hz
          · rw [List.mem_singleton.mp hz]
            show rk d.1 < rk nm
            rw [hrn]
            exact hrk d (List.mem_of_getElem? hd)
      · exact ⟨_, qs, ls, rfl, e10.trans e11, e11 l _ hl10, e11 m _ hm10, Paired.mapP hps10 fun _ _ q => q.tx (.of e11), Paired.mapP hqs10 fun _ _ q => q.tx (.of e11), hw10.tx (.of e11), by omega, hR10⟩
    · obtain ⟨y12, qs, ls, rfl, e10, hl10, hm10, hps10, hqs10, hw10, hll10, hR10⟩ := h
      have hpl2 : ((ps.length : Int)).toNat = ps.length := by omega
      rw [hpl2] at hll10
      refine s_appU (ys := [.str nm, w']) hl10 (ev_var rfl) (eu_tup (ea_cons (ev_var rfl) (ea_cons (ev_var rfl) ea_nil)) (by show (2 : Nat) ≤ 100000; decide)) (by omega) fun p2 H11 hp2' e11 h11 => ?_
      have tx : Tx1 K H11 (upd H11 l (.lst (ps ++ [.ref p2]))) := Tx1.put (e11 l _ hl10)
      have txx := (Tx1.of (K := K) e11).trans tx
      refine ⟨_, _, _, _, _, _, ps ++ [.ref p2], nds ++ [(nm, lat)], qs, ls, rfl, Ex.mut (e10.trans e11) hl, upd_same, ?_, paired_snoc (Paired.mapP hps10 fun _ _ q => q.tx txx) ⟨p2, w', rfl, tx _ _ (st_of h11), hw10.tx txx⟩, Paired.mapP hqs10 fun _ _ q => q.tx txx, by rw [List.length_append]; show nds.length + 1 ≤ _; omega, by omega, fun d hd => ?_, ?_⟩
      · rw [upd_ne hlm.symm]; exact e11 m _ hm10
      · rcases List.mem_append.mp hd with hd | hd
        · have := hrk d hd
          omega
        · rw [List.mem_singleton.mp hd]
          show rk nm < 108 + (j + 1)
          omega
      · rw [List.map_append]
        exact hR10
  · obtain ⟨y5, y6, y9, y10, y11, y12, ps, nds, qs, ls, rfl, e5, h5l, h5m, hps, hqs, hnl, hll, hrk, hR⟩ := h
    refine s_retU (xs := [.ref l, .ref m]) (eu_tup (ea_cons (ev_var rfl) (ea_cons (ev_var rfl) ea_nil)) (by show (2 : Nat) ≤ 100000; decide)) fun p H6 hp e6 h6 => q p l m nds ls H6 (e5.trans e6) h6 ⟨⟨by omega, ps, sq_of (e6 l _ h5l), Paired.mapP hps fun _ _ q => q.tx (.of e6)⟩, ⟨by omega, qs, sq_of (e6 m _ h5m), Paired.mapP hqs fun _ _ q => q.tx (.of e6)⟩, hR⟩
end
end K44
/-! K44Law5: the drawn parts; what a node of them is. -/
namespace K44
open PySem PySem.Spec PyProof.Rows L2 Evl
theorem Rises.perm {N : Type} {rk : N → Nat} {names names' : List N} {ls ls' : List (N × N)} (R : Rises rk names ls) (h1 : names'.Perm names) (h2 : ls'.Perm ls) : Rises rk names' ls' :=
  ⟨fun l h => h1.mem_iff.mpr (R.fst l (h2.mem_iff.mp h)), fun l h => h1.mem_iff.mpr (R.snd l (h2.mem_iff.mp h)), fun l h => R.up l (h2.mem_iff.mp h)⟩
section
variable {K : PySem.W.Frag} {σ : L2.St} {H H' : Hp} {v : V} {te t0 t1 t2 : TE} {D : Ends} {tz : TS}
theorem TrackAt.tx (e : Tx1 K H H') (h : TrackAt K H v) : TrackAt K H' v := by
  obtain ⟨p, z, r, h1, h2⟩ := h
  exact ⟨p, z, r, h1, e _ _ h2⟩
def spParts (K : PySem.W.Frag) : Sp := fun vs H Q _ => ∃ (a : Addr) (ns : List Int) (k : Int), vs = [.ref a, .int k, .bl false] ∧ SqL K H a (ns.map V.int) ∧
  ∀ p tm tr pn pl nds ls H', Ex H H' → H' p = some (.tup [tm, tr, .ref pn, .ref pl]) → NetAt K H' pn pl nds ls → Q (.ref p) H'
/-- a, b = e -/
theorem q_asg2 {i j : Nat} {P : V → V → Hp → Prop} (h : EvP te σ H (fun v H' => ∃ p x y, v = .ref p ∧ SqT K H' p [x, y] ∧ P x y H')) (k : ∀ x y H1, Ex H H1 → P x y H1 → tz D ((σ.set i (some x)).set j (some y)) H1) : tSeq (tAsg te (gTup K 2 (gCons (gName i) (gCons (gName j) gNil)))) tz D σ H :=
  h H (Ex.refl H) _ fun v H1 e hv => by
    obtain ⟨p, x, y, rfl, hp, hP⟩ := hv
    exact ⟨p, [x, y], rfl, hp, rfl, x, [y], rfl, y, [], rfl, rfl, k x y H1 e hP⟩
theorem ep_shufN {E : XK} {a r : Addr} {ns : List Int} {k : Int} {nds : List (Str × Int)} (h0 : Ev t0 σ H (.ref a)) (hS : SqL K H a (ns.map V.int)) (h1 : Ev t1 σ H (.int k)) (h2 : Ev t2 σ H (.ref r)) (hN : Nodes K H r nds) :
    EvP (tCall (spShuf K) [] E (tCons t0 (tCons t1 (tCons t2 tNil)))) σ H (fun v H' => ∃ p nds', v = .ref p ∧ Nodes K H' p nds' ∧ nds'.Perm nds) :=
  ep_call (ea_cons h0 (ea_cons h1 (ea_cons h2 ea_nil))) fun H1 e1 Q q E => by
    obtain ⟨hz, ps, hL, hP⟩ := hN.ex e1
    refine ⟨a, ns, k, r, ps, rfl, ex_l e1 hS, hL, by rw [Paired.length hP]; exact hz, fun p ys H2 e2 h2 hpm => q _ H2 e2 ?_⟩
    obtain ⟨nds', h3, h4⟩ := perm_paired hpm (Paired.mapP hP fun _ _ q => q.tx (.of e2))
    exact ⟨p, nds', rfl, ⟨by rw [h3.length_eq]; exact hz, ys, sq_of h2, h4⟩, h3⟩
theorem ep_shufL {E : XK} {a r : Addr} {ns : List Int} {k : Int} {ls : List (Str × Str)} (h0 : Ev t0 σ H (.ref a)) (hS : SqL K H a (ns.map V.int)) (h1 : Ev t1 σ H (.int k)) (h2 : Ev t2 σ H (.ref r)) (hN : Lines K H r ls) :
    EvP (tCall (spShuf K) [] E (tCons t0 (tCons t1 (tCons t2 tNil)))) σ H (fun v H' => ∃ p ls', v = .ref p ∧ Lines K H' p ls' ∧ ls'.Perm ls) :=
  ep_call (ea_cons h0 (ea_cons h1 (ea_cons h2 ea_nil))) fun H1 e1 Q q E => by
    obtain ⟨hz, ps, hL, hP⟩ := hN.ex e1
    refine ⟨a, ns, k, r, ps, rfl, ex_l e1 hS, hL, by rw [Paired.length hP]; exact hz, fun p ys H2 e2 h2 hpm => q _ H2 e2 ?_⟩
    obtain ⟨nds', h3, h4⟩ := perm_paired hpm (Paired.mapP hP fun _ _ q => q.tx (.of e2))
    exact ⟨p, nds', rfl, ⟨by rw [h3.length_eq]; exact hz, ys, sq_of h2, h4⟩, h3⟩
def spWhat (K : PySem.W.Frag) : Sp := fun vs H Q _ => ∃ p tm tr pn pl nds x, vs = [.ref p, .str x] ∧ SqT K H p [tm, tr, .ref pn, pl] ∧ Nodes K H pn nds ∧ x ∈ nds.map (·.1) ∧ ∀ w H', Ex H H' → IsWhat K H' w (latIn nds x) → Q w H'
end
section
variable {P : Program} {w : World} {K : PySem.W.Frag} {mg : Str → Option Value} {base : Heap}
theorem ok_parts (T : Tx K mg) : FnOk P w K mg base CX0 5 T.f_parts T.d_parts ["_law_script", "_law_k", "_law_plain"] (spParts K) := by
  refine T.t_parts.F.ok sc_parts (fun vs H Q E h => ?_) (fun cdv A outer s H vs Q E hr h => ?_)
  · obtain ⟨a, ns, k, rfl, _⟩ := h
    rfl
  obtain ⟨a, ns, k, rfl, hS, q⟩ := h
  refine ⟨_, (pss_cons (ps_set (i := 3) sc_parts.nd rfl (.inl rfl) (pe_lst pa_nil))
      (pss_cons (ps_for PassesOwn.never rfl (pi_range1 (by rfl) T.B.range (pa_cons (pe_op op_add pe_int (pe_call (ok_draw T) (hr.mono (by decide)) (by rfl) T.t_draw.g T.t_draw.F.kp T.t_draw.b .nil pass0 (pa_cons (pv 0) (pa_cons (pe_op op_add (pv 1) pe_int) (pa_cons pe_int pa_nil))))) pa_nil)) (pg_name (i := 4) sc_parts.nd rfl (.inl rfl))
        (pss_one (ps_expr (pe_bm PySem.F.plainAttrs_list PySem.F.slot_list_append PySem.F.type_list_append mt_append (pv 3) (pa_cons (pe_call (ok_track T) (hr.mono (by decide)) (by rfl) T.t_track.g T.t_track.F.kp T.t_track.b .nil pass0 (pa_cons (pv 0) (pa_cons (pe_op op_add (pe_op op_add (pv 1) pe_int) (pe_op op_mul pe_int (pv 4))) (pa_cons (pe_call (ok_name T) (hr.mono (by decide)) (by rfl) T.t_name.g T.t_name.F.kp T.t_name.b .nil pass0 (pa_cons (pv 0) (pa_cons (pe_op op_add (pe_op op_add (pv 1) pe_int) (pv 4)) (pa_cons (pe_ix ix_str pe_str (pv 4) (fun _ _ => rfl)) pa_nil)))) pa_nil)))) pa_nil)))))
      (pss_cons (ps_asg (pe_call (ok_net T) (hr.mono (by decide)) (by rfl) T.t_net.g T.t_net.F.kp T.t_net.b .nil pass0 (pa_cons (pv 0) (pa_cons (pe_op op_add (pv 1) pe_int) (pa_cons (pv 3) (pa_cons (pv 2) pa_nil))))) (pg_tup (by rfl) (pgs_cons (pg_name (i := 5) sc_parts.nd rfl (.inl rfl)) (pgs_cons (pg_name (i := 6) sc_parts.nd rfl (.inl rfl)) pgs_nil))))
      (pss_cut (ps_if (pt_cmpR op_eq (pe_call (ok_draw T) (hr.mono (by decide)) (by rfl) T.t_draw.g T.t_draw.F.kp T.t_draw.b .nil pass0 (pa_cons (pv 0) (pa_cons (pe_op op_add (pv 1) pe_int) (pa_cons pe_int pa_nil)))) pe_int (nomark _)) (pss_one (ps_set (i := 6) sc_parts.nd rfl (.inl rfl) (pe_lst pa_nil))) pss_nil)
      (pss_cons (ps_set (i := 5) sc_parts.nd rfl (.inl rfl) (pe_call (ok_shuf T) (hr.mono (by decide)) (by rfl) T.t_shuf.g T.t_shuf.F.kp T.t_shuf.b .nil pass0 (pa_cons (pv 0) (pa_cons (pe_op op_add (pv 1) pe_int) (pa_cons (pv 5) pa_nil)))))
      (pss_one (ps_ret (pe_tup (pa_cons (pe_call (ok_tempo T) (hr.mono (by decide)) (by rfl) T.t_tempo.g T.t_tempo.F.kp T.t_tempo.b .nil pass0 (pa_cons (pv 0) (pa_cons (pv 1) pa_nil))) (pa_cons (pv 3) (pa_cons (pv 5) (pa_cons (pe_call (ok_shuf T) (hr.mono (by decide)) (by rfl) T.t_shuf.g T.t_shuf.F.kp T.t_shuf.b .nil pass0 (pa_cons (pv 0) (pa_cons (pe_op op_add (pv 1) pe_int) (pa_cons (pv 6) pa_nil)))) pa_nil)))))))))))), ?_⟩
  refine q_asgL (el_lst ea_nil (by show (0 : Nat) ≤ 100000; omega)) fun t H1 ht e1 h1 => ?_
  have d0 := draw_lo ns (k + 90) (m := 2) (by decide)
  have d1 := draw_hi ns (k + 90) (m := 2) (by decide)
  refine q_forR1 (n := 1 + draw ns (k + 90) 2) (ea_cons (ev_op ev_c (ev_draw (ev_var rfl) (ex_l e1 hS) (ev_op (ev_var rfl) ev_c rv_I0) ev_c (by decide)) rv_I0) ea_nil) (by omega)
    (fun i σ' H' => ∃ y4 xs, σ' = [some (.ref a), some (.int k), some (.bl false), some (.ref t), y4, none, none] ∧ Ex H H' ∧ H' t = some (.lst xs) ∧ xs.length = i ∧ ∀ v ∈ xs, TrackAt K H' v)
    (fun H2 e2 => ⟨none, [], rfl, e1.trans e2, e2 t _ h1, rfl, fun v hv => by simp at hv⟩) (fun i σ' H2 hi h => ?_) (fun σ' H2 h => ?_)
  · obtain ⟨y4, xs, rfl, e2, h2, hlen, htr⟩ := h
    obtain ⟨c, hc⟩ := at_ps i (by omega)
    refine s_appP (P := fun v H' => TrackAt K H' v) h2 (ev_var rfl) (ep_call (ea_cons (ev_var rfl) (ea_cons (ev_op (ev_op (ev_var rfl) ev_c rv_I0) (ev_op ev_c (ev_var rfl) (rv_I (.inl ⟨by decide, by decide⟩))) rv_I0) (ea_cons (ev_name (ns := ns) (z := ⟨#[c]⟩) (ev_var rfl) (ex_l e2 hS) (ev_op (ev_op (ev_var rfl) ev_c rv_I0) (ev_var rfl) rv_I0) (ev_op ev_c (ev_var rfl) (rv_ixS (by decide +kernel) hc)) (by show (1 : Nat) ≤ 100; decide)) ea_nil))) fun H3 e3 Q q E => ⟨a, ns, _, _, rfl, ex_l (e2.trans e3) hS, fun v H4 e4 hv => q v H4 e4 hv⟩) (by omega) fun v H3 e3 hv h3 => ?_
    have tx : Tx1 K H3 (upd H3 t (.lst (xs ++ [v]))) := Tx1.put h3
    refine ⟨_, _, rfl, Ex.mut (e2.trans e3) ht, upd_same, by rw [List.length_append, hlen]; rfl, fun u hu => ?_⟩
    rcases List.mem_append.mp hu with hu | hu
    · exact (htr u hu).tx ((Tx1.of e3).trans tx)
    · rw [List.mem_singleton.mp hu]
      exact hv.tx tx
  obtain ⟨y4, xs, rfl, e2, h2, hlen, htr⟩ := h
  refine q_asg2 (K := K) (P := fun x y H' => ∃ pn pl nds ls, x = .ref pn ∧ y = .ref pl ∧ NetAt K H' pn pl nds ls) (ep_call (ea_cons (ev_var rfl) (ea_cons (ev_op (ev_var rfl) ev_c rv_I0) (ea_cons (ev_var rfl) (ea_cons (ev_var rfl) ea_nil)))) fun H3 e3 Q q E => ⟨a, ns, _, t, xs, rfl, ex_l (e2.trans e3) hS, sq_of (e3 t _ h2), by omega, by omega, fun v hv => (htr v hv).ex e3, fun p pn pl nds ls H4 e4 h4 hn => q _ H4 e4 ⟨p, .ref pn, .ref pl, rfl, st_of h4, pn, pl, nds, ls, rfl, rfl, hn⟩⟩) fun x y H3 e3 h3 => ?_
  obtain ⟨pn, pl, nds, ls, rfl, rfl, hN, hL, hR⟩ := h3
  have e13 := e2.trans e3
  refine q_cut (M := fun σ' H' => ∃ pl' ls', σ' = [some (.ref a), some (.int k), some (.bl false), some (.ref t), y4, some (.ref pn), some (.ref pl')] ∧ Ex H3 H' ∧ Lines K H' pl' ls' ∧ Rises rk (nds.map (·.1)) ls') ?_ fun σ' H4 h => ?_
  · refine s_when (et_test (ev_op (ev_draw (ev_var rfl) (ex_l e13 hS) (ev_op (ev_var rfl) ev_c rv_I0) ev_c (by decide)) ev_c (rv_eq rfl))) (fun hb H4 e4 => ?_) (fun hb H4 e4 => ?_)
    · exact s_asgL (el_lst ea_nil (by show (0 : Nat) ≤ 100000; omega)) fun m H5 hm e5 h5 => ⟨m, [], rfl, e4.trans e5, ⟨by show (0 : Nat) ≤ 1000; omega, [], sq_of h5, .nil⟩, ⟨fun l h => by simp at h, fun l h => by simp at h, fun l h => by simp at h⟩⟩
    · exact ⟨pl, ls, rfl, e4, hL.ex e4, hR⟩
  obtain ⟨pl', ls', rfl, e4, hL4, hR4⟩ := h
  have e14 := e13.trans e4
  refine q_asgP (ep_shufN (ev_var rfl) (ex_l e14 hS) (ev_op (ev_var rfl) ev_c rv_I0) (ev_var rfl) (hN.ex e4)) fun v H5 e5 h5 => ?_
  obtain ⟨pn2, nds2, rfl, hN5, hpm⟩ := h5
  have e15 := e14.trans e5
  refine s_retP (ep_tup (S := fun vs H' => ∃ tm pl2 ls2, vs = [tm, .ref t, .ref pn2, .ref pl2] ∧ Lines K H' pl2 ls2 ∧ ls2.Perm ls') (fun H6 e6 Q q => eap_cons (P := fun _ _ => True) (eq_tempo (ev_var rfl) (ex_l e15 hS) (ev_var rfl)) (eap_cons (ep_of (ev_var rfl)) (eap_cons (ep_of (ev_var rfl)) (eap_cons (P := fun v H' => ∃ p ls2, v = .ref p ∧ Lines K H' p ls2 ∧ ls2.Perm ls') (ep_shufL (ev_var rfl) (ex_l e15 hS) (ev_op (ev_var rfl) ev_c rv_I0) (ev_var rfl) (hL4.ex e5)) eap_nil (fun v Ha Hb e h => ?_)) fun _ _ _ _ q => q) fun _ _ _ _ q => q) (fun _ _ _ _ q => q) H6 e6 Q fun vs H7 e7 h => ?_) (fun vs H6 h => ?_) (fun vs Ha Hb e h => ?_)) fun v H6 e6 h => ?_
  · obtain ⟨p, ls2, rfl, h1, h2⟩ := h
    exact ⟨p, ls2, rfl, h1.ex e, h2⟩
  · obtain ⟨tm, r1, rfl, _, y1, r2, rfl, rfl, y2, r3, rfl, rfl, y3, r4, rfl, ⟨p, ls2, rfl, h1, h2⟩, rfl⟩ := h
    exact q _ H7 e7 ⟨tm, p, ls2, rfl, h1, h2⟩
  · obtain ⟨tm, pl2, ls2, rfl, _⟩ := h
    show (4 : Nat) ≤ 100000
    decide
  · obtain ⟨tm, pl2, ls2, rfl, h1, h2⟩ := h
    exact ⟨tm, pl2, ls2, rfl, h1.ex e, h2⟩
  · obtain ⟨p, vs, rfl, hp, tm, pl2, ls2, rfl, h1, h2⟩ := h
    exact q p tm (.ref t) pn2 pl2 nds2 ls2 H6 (e15.trans e6) hp ⟨hN5.ex e6, h1, hR4.perm (hpm.map _) h2⟩
theorem ok_what (T : Tx K mg) : FnOk P w K mg base CX0 1 T.f_what T.d_what ["_law_parts_here", "_law_name_here"] (spWhat K) := by
  refine T.t_what.F.ok sc_what (fun vs H Q E h => ?_) (fun cdv A outer s H vs Q E hr h => ?_)
  · obtain ⟨p, tm, tr, pn, pl, nds, x, rfl, _⟩ := h
    rfl
  obtain ⟨pp, tm, tr, a, pl, nds, x, rfl, hPT, ⟨hz, ps, hS, hp⟩, hx, q⟩ := h
  refine ⟨_, (pss_cons (ps_for PassesOwn.never rfl (pi_list (pe_ix (r := rIxT K) ix_tup (pv 0) pe_int (fun _ _ => rfl))) (pg_name (i := 2) sc_what.nd rfl (.inl rfl))
        (pss_one (ps_if (pt_cmpR op_eq (pe_ix (r := rIxT K) ix_tup (pv 2) pe_int (fun _ _ => rfl)) (pv 1) (nomark _)) (pss_one (ps_ret (pe_ix (r := rIxT K) ix_tup (pv 2) pe_int (fun _ _ => rfl)))) pss_nil)))
      (pss_one (ps_ret pe_non))), ?_⟩
  have hlen : ps.length = nds.length := Paired.length hp
  refine q_forLn (ev_op (ev_var rfl) ev_c (rv_ixT hPT (atI_nat (j := 2) rfl))) hS (fun i σ' H' => ∃ y, σ' = [some (.ref pp), some (.str x), y] ∧ Ex H H' ∧ x ∉ (nds.map (·.1)).take i) (fun H1 e1 => ⟨none, rfl, e1, by simp⟩) (fun i σ' H' _ h => ?_) (fun i v σ' H' hv h => ?_) (fun σ' H' h => ?_)
  · obtain ⟨y, _, e, _⟩ := h
    exact ex_l e hS
  · obtain ⟨y, rfl, e, hn⟩ := h
    obtain ⟨d, hd, p, w', rfl, hT, hW⟩ := paired_at hp hv
    have hd1 : (nds.map (·.1))[i]? = some d.1 := by rw [List.getElem?_map, hd]; rfl
    refine s_when (b := decide (V.str d.1 = V.str x)) (et_test (ev_op (ix0 rfl (ex_t e hT)) (ev_var rfl) (rv_eq rfl))) (fun hb H1 e1 => ?_) (fun hb H1 e1 => ?_)
    · have hdx := str_eq hb
      refine s_ret (ix1 rfl (ex_t (e.trans e1) hT)) fun H2 e2 => q w' H2 ((e.trans e1).trans e2) ?_
      rw [latIn_at hd hdx (by rw [List.map_take]; exact hn)]
      exact hW.tx (.of ((e.trans e1).trans e2))
    · exact ⟨_, rfl, e.trans e1, not_take_succ hd1 hn (str_ne hb)⟩
  · obtain ⟨y, rfl, e, hn⟩ := h
    rw [hlen, ← List.length_map (f := fun d : Str × Int => d.1), List.take_length] at hn
    exact absurd hx hn
theorem ok_late (T : Tx K mg) : FnOk P w K mg base CX0 1 T.f_late T.d_late ["_law_what_here"] (spLat K) := by
  refine T.t_late.F.ok sc_late (fun vs H Q E h => ?_) (fun cdv A outer s H vs Q E hr h => ?_)
  · obtain ⟨w, lat, rfl, _⟩ := h
    rfl
  obtain ⟨w, lat, rfl, ⟨a, k, rest, rfl, hT, hk⟩, q⟩ := h
  refine ⟨_, (pss_cons (ps_if (pt_cmpR op_eq (pe_ix (r := rIxT K) ix_tup (pv 0) pe_int (fun _ _ => rfl)) pe_str (nomark _)) (pss_one (ps_ret (pe_ix (r := rIxT K) ix_tup (pv 0) pe_int (fun _ _ => rfl)))) pss_nil)
      (pss_one (ps_ret pe_int))), ?_⟩
  refine q_when (b := decide (V.str k = V.str "ahead")) (et_test (ev_op (ix0 rfl hT) ev_c (rv_eq rfl))) (fun hb H1 e1 => ?_) (fun hb H1 e1 => ?_)
  · have hk1 : k = "ahead" := V.str.inj (of_decide_eq_true hb)
    rcases hk with ⟨_, r, rfl⟩ | ⟨hn, _⟩
    · exact s_ret (ix1 rfl (ex_t e1 hT)) fun H2 e2 => q H2 (e1.trans e2)
    · exact absurd hk1 hn
  · rcases hk with ⟨hk1, _⟩ | ⟨_, rfl⟩
    · rw [hk1] at hb
      exact absurd hb (by simp)
    · exact s_ret ev_c fun H2 e2 => q H2 (e1.trans e2)
end
end K44
/-! K44Law6: the delays of a later reaching. -/
namespace K44
open PySem PySem.Spec PyProof.Rows L2 Evl
def put1 (F : Str → Int) (x : Str) (z : Int) : Str → Int := fun y => if y = x then z else F y
theorem put1_same (F : Str → Int) (x : Str) (z : Int) : put1 F x z x = z := by unfold put1; rw [if_pos rfl]
theorem put1_ne {F : Str → Int} {x y : Str} {z : Int} (h : y ≠ x) : put1 F x z y = F y := by unfold put1; rw [if_neg h]
theorem dOf_put1 {F : Str → Int} {o : List Str} {x : Str} {z : Int} (h : x ∉ o) : dOf (put1 F x z) o = dOf F o := dOf_congr fun y hy => put1_ne fun e => h (e ▸ hy)
/-- a key that stands last is written again -/
theorem put_over {F : Str → Int} {o : List Str} {x : Str} {z : Int} (h : x ∉ o) : putK (dOf F (o ++ [x])) (Sum.inr x) (V.int z) = dOf (put1 F x z) (o ++ [x]) := by
  have hany : ((dOf F (o ++ [x])).any fun kv => decide (kv.1 = (Sum.inr x : Key))) = true := by
    rw [valV_any, val_dOf (List.mem_append_right _ List.mem_cons_self)]
    rfl
  unfold putK
  rw [if_pos hany]
  unfold dOf
  rw [List.map_map]
  refine List.map_congr_left fun y hy => ?_
  show (if (Sum.inr y : Key) = Sum.inr x then ((Sum.inr y : Key), V.int z) else ((Sum.inr y : Key), V.int (F y))) = ((Sum.inr y : Key), V.int (put1 F x z y))
  by_cases e : y = x
  · rw [if_pos (by rw [e]), e, put1_same]
  · rw [if_neg (fun q => e (Sum.inr.inj q)), put1_ne e]
section
variable {K : PySem.W.Frag} {σ : L2.St} {H H' : Hp} {v : V} {te ta tb t0 t1 t2 : TE} {D : Ends} {tz : TS}
theorem el_cat {xs zs : List V} {b : Addr} (ha : EvL ta σ H xs) (hb : Ev tb σ H (.ref b)) (h : H b = some (.lst zs)) (hz : xs.length + zs.length ≤ 100000) : EvL (tOp rCat ta tb) σ H (xs ++ zs) := fun H1 e Q q =>
  ha H1 e _ fun p H2 hp e2 h2 => hb H2 (e.trans e2) _ fun H3 e3 => ⟨p, b, xs, zs, rfl, rfl, e3 p _ h2, ((e.trans e2).trans e3) b _ h, sz_of hz, fun p2 hp2 => q p2 _ (fresh_back (e2.trans e3) hp2) ((e2.trans e3).trans (Ex.new hp2)) upd_same⟩
theorem ev_maxCB {ns : List Int} (h : EvL te σ H (ns.map V.int)) (h0 : 0 < ns.length) : Ev (tCB (rMax K) (tCons te tNil)) σ H (.int (maxD ns)) := fun H1 e Q q => h H1 e _ fun p H2 _ e2 hp => ⟨p, ns, rfl, sq_of hp, h0, fun m hm hl => by rw [maxD_of hm hl]; exact q H2 e2⟩
def rLenD : List V → Hp → VK → Prop := fun xs H Q => ∃ a kvs, xs = [V.ref a] ∧ H a = some (.dK kvs) ∧ Q (.int kvs.length) H
theorem ev_lenD {d : Addr} {kvs : List (Key × V)} (h : Ev te σ H (.ref d)) (hd : H d = some (.dK kvs)) : Ev (tCB rLenD (tCons te tNil)) σ H (.int (kvs.length : Int)) := fun H1 e Q q => h H1 e _ fun H2 e2 => ⟨d, kvs, rfl, (e.trans e2) d _ hd, q H2 e2⟩
theorem q_par {i j : Nat} {x y : V} (ha : Ev ta σ H x) (hb : Ev tb σ H y) (k : ∀ H1, Ex H H1 → tz D ((σ.set i (some x)).set j (some y)) H1) : tSeq (tPar i j (tCons ta (tCons tb tNil))) tz D σ H :=
  ha H (Ex.refl H) _ fun H1 e1 => hb H1 e1 _ fun H2 e2 => ⟨x, y, rfl, k H2 (e1.trans e2)⟩
theorem ev_latewhat {E E' : XK} {p pn : Addr} {tm tr pl : V} {nds : List (Str × Int)} {x : Str} (h0 : Ev t0 σ H (.ref p)) (h1 : Ev t1 σ H (.str x)) (hT : SqT K H p [tm, tr, .ref pn, pl]) (hN : Nodes K H pn nds) (hx : x ∈ nds.map (·.1)) :
    Ev (tCall (spLat K) [] E (tCons (tCall (spWhat K) [] E' (tCons t0 (tCons t1 tNil))) tNil)) σ H (.int (latIn nds x)) :=
  ev_callP (eap_cons (P := fun w' H' => IsWhat K H' w' (latIn nds x)) (ep_call (ea_cons h0 (ea_cons h1 ea_nil)) fun H1 e1 Q q E => ⟨p, tm, tr, pn, pl, nds, x, rfl, ex_t e1 hT, hN.ex e1, hx, fun w' H' e h => q w' H' e h⟩) eap_nil fun v H1 H2 e h => h.tx (.of e)) fun vs H1 e1 h => by
    obtain ⟨y, ys, rfl, hy, rfl⟩ := h
    exact fun H2 e2 Q q E => ⟨y, latIn nds x, rfl, hy.tx (.of e2), fun H3 e3 => q H3 e3⟩
/-- a reaching that is late enough everywhere -/
def Late (lat : Str → Int) (ls : List (Str × Str)) (o : List Str) (F : Str → Int) : Prop := (∀ x ∈ o, ins ls x = [] → F x = 0) ∧ ∀ x ∈ o, ∀ y ∈ ins ls x, F y + lat y ≤ F x
def spLater (K : PySem.W.Frag) : Sp := fun vs H Q _ => ∃ (a : Addr) (ns : List Int) (k : Int) (p : Addr) (tm tr : V) (pn pl : Addr) (nds : List (Str × Int)) (ls : List (Str × Str)), vs = [.ref a, .int k, .ref p] ∧ SqL K H a (ns.map V.int) ∧ SqT K H p [tm, tr, .ref pn, .ref pl] ∧ Nodes K H pn nds ∧ Lines K H pl ls ∧
  (∀ l ∈ ls, l.1 ∈ ordOf nds ls ∧ l.2 ∈ ordOf nds ls) ∧ ∀ F q H', Ex H H' → H' q = some (.lst ((diffs (latIn nds) ls F).map V.int)) → Late (latIn nds) ls (ordOf nds ls) F → Q (.ref q) H'
end
section
variable {P : Program} {w : World} {K : PySem.W.Frag} {mg : Str → Option Value} {base : Heap}
theorem ok_later (T : Tx K mg) : FnOk P w K mg base CX0 3 T.f_later T.d_later ["_law_script", "_law_k", "_law_parts_here"] (spLater K) := by
  refine T.t_later.F.ok sc_later (fun vs H Q E h => ?_) (fun cdv A outer s H vs Q E hr h => ?_)
  · obtain ⟨a, ns, k, p, tm, tr, pn, pl, nds, ls, rfl, _⟩ := h
    rfl
  obtain ⟨a, ns, k, p, tm, tr, pn, pl, nds, ls, rfl, hS, hPT, hN, hL, hin, q⟩ := h
  refine ⟨_, (pss_cons (ps_par (i := 3) (j := 4) (by rfl) sc_later.nd rfl rfl (by decide) rfl rfl (pa_cons (pe_ix (r := rIxT K) ix_tup (pv 2) pe_int (fun _ _ => rfl)) (pa_cons (pe_ix (r := rIxT K) ix_tup (pv 2) pe_int (fun _ _ => rfl)) pa_nil)) (by rfl))
      (pss_cons (ps_set (i := 5) sc_later.nd rfl (.inr rfl) pe_dnewK)
      (pss_cons (ps_for PassesOwn.never rfl (pi_list (pe_call (ok_order T) (hr.mono (by decide)) (by rfl) T.t_order.g T.t_order.F.kp T.t_order.b .nil pass0 (pa_cons (pv 3) (pa_cons (pv 4) pa_nil)))) (pg_name (i := 6) sc_later.nd rfl (.inr rfl))
        (pss_cons (ps_setLc (i := 7) (own := [("_law_line", 8)]) (g := gName 8) rfl sc_later.nd rfl rfl (sw_true rfl rfl rfl (by decide +kernel)) (pi_list (pv 4)) (blkOk_by (N := N_later) (sc := defScope s_later) (by decide +kernel)) (fun _ _ _ _ _ => pg_name (i := 8) sc_later.nd rfl (.inl rfl)) (fun _ _ _ _ _ => pts_one (pt_cmpR op_eq (pe_ix (r := rIxT K) ix_tup (pv 8) pe_int (fun _ _ => rfl)) (pv 6) (nomark _))) (fun _ _ _ _ _ => (pe_op op_add (pe_dget (hu_of hr) (pv 5) (pe_ix (r := rIxT K) ix_tup (pv 8) pe_int (fun _ _ => rfl)) (fun _ _ => rfl)) (pe_call (ok_late T) (hr.mono (by decide)) (by rfl) T.t_late.g T.t_late.F.kp T.t_late.b .nil pass0 (pa_cons (pe_call (ok_what T) (hr.mono (by decide)) (by rfl) T.t_what.g T.t_what.F.kp T.t_what.b .nil pass0 (pa_cons (pv 2) (pa_cons (pe_ix (r := rIxT K) ix_tup (pv 8) pe_int (fun _ _ => rfl)) pa_nil))) pa_nil)))))
        (pss_cons (ps_dput (hu_of hr) (pv 5) (pv 6) (pe_callB (cr_max rfl) (by rfl) T.B.max (by decide +kernel) (pa_cons (pe_op op_cat (pe_lst (pa_cons pe_int pa_nil)) (pv 7)) pa_nil)) rfl)
        (pss_one (ps_if (pt_cmpR op_gt (pe_callB call_len_seq (by rfl) T.B.len PySem.boot_len (pa_cons (pv 7) pa_nil)) pe_int (nomark _)) (pss_one (ps_dput (hu_of hr) (pv 5) (pv 6) (pe_op op_add (pe_dget (hu_of hr) (pv 5) (pv 6) (fun _ _ => rfl)) (pe_call (ok_draw T) (hr.mono (by decide)) (by rfl) T.t_draw.g T.t_draw.F.kp T.t_draw.b .nil pass0 (pa_cons (pv 0) (pa_cons (pe_op op_add (pv 1) (pe_callB call_lenD (by rfl) T.B.len PySem.boot_len (pa_cons (pv 5) pa_nil))) (pa_cons pe_int pa_nil))))) rfl)) pss_nil)))))
      (pss_one (ps_ret (pe_lc (own := [("_law_line", 8)]) (g := gName 8) rfl sc_later.nd (pi_list (pv 4)) (blkOk_by (N := N_later) (sc := defScope s_later) (by decide +kernel)) (fun _ _ _ _ _ => pg_name (i := 8) sc_later.nd rfl (.inl rfl)) (fun _ _ _ _ _ => pts_nil) (fun _ _ _ _ _ => (pe_op op_sub (pe_op op_sub (pe_dget (hu_of hr) (pv 5) (pe_ix (r := rIxT K) ix_tup (pv 8) pe_int (fun _ _ => rfl)) (fun _ _ => rfl)) (pe_dget (hu_of hr) (pv 5) (pe_ix (r := rIxT K) ix_tup (pv 8) pe_int (fun _ _ => rfl)) (fun _ _ => rfl))) (pe_call (ok_late T) (hr.mono (by decide)) (by rfl) T.t_late.g T.t_late.F.kp T.t_late.b .nil pass0 (pa_cons (pe_call (ok_what T) (hr.mono (by decide)) (by rfl) T.t_what.g T.t_what.F.kp T.t_what.b .nil pass0 (pa_cons (pv 2) (pa_cons (pe_ix (r := rIxT K) ix_tup (pv 8) pe_int (fun _ _ => rfl)) pa_nil))) pa_nil)))))))))), ?_⟩
  have ho : Ord ls (ordOf nds ls) := ord_order _ _
  have hsub : ∀ x ∈ ordOf nds ls, x ∈ nds.map (·.1) := fun x hx => sub_order hx
  have holen : (ordOf nds ls).length ≤ 1000 := order_len (by rw [List.length_map]; exact hN.1)
  generalize hoe : ordOf nds ls = o at *
  refine q_par (ev_op (ev_var rfl) ev_c (rv_ixT hPT (atI_nat (j := 2) rfl))) (ev_op (ev_var rfl) ev_c (rv_ixT hPT (atI_nat (j := 3) rfl))) fun H1 e1 => ?_
  refine q_asgD ed_new fun d H2 hd e2 hd2 => ?_
  have e12 := e1.trans e2
  have hdH : H d = none := fresh_back e1 hd
  refine q_forNLn (el_order hoe (ev_var rfl) (ev_var rfl) (hN.ex e12) (hL.ex e12)) (fun r i σ' H' => ∃ y6 y7 F, σ' = [some (.ref a), some (.int k), some (.ref p), some (.ref pn), some (.ref pl), some (.ref d), y6, y7, none] ∧ Ex H H' ∧ r ≠ d ∧ H' r = some (.lst (o.map V.str)) ∧ H' d = some (.dK (dOf F (o.take i))) ∧ Late (latIn nds) ls (o.take i) F)
    (fun r H3 hr3 e3 h3 => ⟨none, none, fun _ => 0, rfl, e12.trans e3, (fun e => by rw [e, hd2] at hr3; cases hr3), h3, e3 d _ hd2, fun x hx => by simp at hx, fun x hx => by simp at hx⟩) (fun r i σ' H' _ h => ?_) (fun r i v σ' H' hv h => ?_) (fun r σ' H' h => ?_)
  · obtain ⟨_, _, _, _, _, _, hp, _⟩ := h
    exact sq_of hp
  · obtain ⟨y6, y7, F, rfl, e, hne, hp, hdd, hF0, hF1⟩ := h
    obtain ⟨x, hx, rfl⟩ := strs_at hv
    obtain ⟨hno, hini⟩ := ho.at i x hx
    have hxo : x ∈ o := List.mem_of_getElem? hx
    have hz := hL.1
    obtain ⟨_, ps, hLS, hps⟩ := hL
    have hplen : ps.length = ls.length := Paired.length hps
    generalize hR : (ins ls x).map (fun y => F y + latIn nds y) = R
    have hRlen : R.length ≤ 1000 := by rw [← hR, List.length_map]; exact ins_len hz
    -- what comes over the lines
    refine q_asgL (el_is (ys := R.map V.int) (el_lcL (f := fun i => match ls[i]? with | some l => decide (V.str l.2 = V.str x) | none => false) (v := fun i => match ls[i]? with | some l => .int (F l.1 + latIn nds l.1) | none => .non) (ev_var rfl) (ex_l e hLS) (by omega) (fun _ => rfl) (fun i1 v H4 e4 hv => ?_) (fun i1 v H4 e4 hv hf => ?_)) ?_) fun rr H3 hrr e3 h3 => ?_
    · obtain ⟨l, hl, p2, rfl, hn⟩ := paired_at hps hv
      rw [hl]
      exact et_test (ev_op (ix1 rfl (ex_t (e.trans e4) hn)) (ev_var rfl) (rv_eq rfl))
    · obtain ⟨l, hl, p2, rfl, hn⟩ := paired_at hps hv
      rw [hl] at hf ⊢
      have hlx : l.2 = x := str_eq hf
      have hn := ex_t (e.trans e4) hn
      have hl1 : l.1 ∈ o.take i := hini l.1 (mem_ins.mpr (by rw [← hlx]; exact List.mem_of_getElem? hl))
      exact ev_op (ev_dget (ev_var rfl) (ix0 rfl hn) (e4 d _ hdd) (val_dOf hl1)) (ev_latewhat (ev_var rfl) (ix0 rfl hn) (ex_t (e.trans e4) hPT) (hN.ex (e.trans e4)) (hsub _ (List.mem_of_mem_take hl1))) rv_I0
    · rw [hplen, ← hR]
      unfold ins
      rw [List.map_filterMap, List.map_filterMap]
      refine given_fm ls _ _ _ fun i l hl => ?_
      rw [hl]
      by_cases h : l.2 = x
      · simp [h]
      · simp [h]
    have e03 := e.trans e3
    have hrd : rr ≠ d := fun q => by rw [q, hdd] at hrr; cases hrr
    -- found[..] = max([0] + reached)
    refine q_dput (v := .int (maxD (0 :: R))) (e3 d _ hdd) (by rw [dOf_len, List.length_take]; omega) (ev_maxCB (ns := 0 :: R) (el_cat (xs := [.int 0]) (el_lst (ea_cons ev_c ea_nil) (by show (1 : Nat) ≤ 100000; decide)) (ev_var rfl) h3 (by rw [List.length_map]; show 1 + R.length ≤ 100000; omega)) (by rw [List.length_cons]; omega)) (ev_var rfl) (ev_var rfl) fun H4 e4 => ?_
    have hput : putK (dOf F (o.take i)) (Sum.inr x) (V.int (maxD (0 :: R))) = dOf (put1 F x (maxD (0 :: R))) (o.take (i + 1)) := by
      have := put_next (A := put1 F x (maxD (0 :: R))) hx hno
      rw [dOf_put1 hno, put1_same] at this
      exact this
    have hts : o.take (i + 1) = o.take i ++ [x] := by rw [List.take_add_one, hx]; rfl
    have e05 : Ex H (upd H4 d (.dK (putK (dOf F (o.take i)) (Sum.inr x) (V.int (maxD (0 :: R)))))) := Ex.mut (e03.trans e4) hdH
    -- any value at x that is late enough
    have late : ∀ z : Int, (ins ls x = [] → z = 0) → (∀ r ∈ R, r ≤ z) → Late (latIn nds) ls (o.take (i + 1)) (put1 F x z) := fun z h0 h1 => by
      have nex : ∀ y ∈ o.take i, y ≠ x := fun y hy e => hno (e ▸ hy)
      have up : ∀ u ∈ o.take i, ∀ y ∈ ins ls u, y ≠ x := fun u hu y hy => by
        obtain ⟨j, hj, ej⟩ := List.getElem_of_mem hu
        have hj2 : o[j]? = some u := by
          have : (o.take i)[j]? = some u := by rw [List.getElem?_eq_getElem hj, ej]
          rw [List.getElem?_take] at this
          split at this
          · exact this
          · cases this
        have hji : j < i := by rw [List.length_take] at hj; omega
        have := (ho.at j u hj2).2 y hy
        have : y ∈ o.take i := by
          have h2 : o.take j = (o.take i).take j := by rw [List.take_take, Nat.min_eq_left (by omega)]
          rw [h2] at this
          exact List.mem_of_mem_take this
        exact nex y this
      rw [hts]
      refine ⟨fun u hu h => ?_, fun u hu y hy => ?_⟩
      · rcases List.mem_append.mp hu with hu | hu
        · rw [put1_ne (nex u hu)]; exact hF0 u hu h
        · rw [List.mem_singleton.mp hu] at h ⊢
          rw [put1_same]; exact h0 h
      · rcases List.mem_append.mp hu with hu | hu
        · rw [put1_ne (nex u hu), put1_ne (up u hu y hy)]; exact hF1 u hu y hy
        · rw [List.mem_singleton.mp hu] at hy ⊢
          rw [put1_same, put1_ne (nex y (hini y hy))]
          exact h1 _ (by rw [← hR]; exact List.mem_map.mpr ⟨y, hy, rfl⟩)
    have hle : ∀ r ∈ R, r ≤ maxD (0 :: R) := fun r hr => le_maxD (List.mem_cons_of_mem _ hr)
    have hrr5 : (upd H4 d (.dK (putK (dOf F (o.take i)) (Sum.inr x) (V.int (maxD (0 :: R)))))) rr = some (.lst (R.map V.int)) := by
      rw [upd_ne hrd]; exact e4 rr _ h3
    have hr5 : (upd H4 d (.dK (putK (dOf F (o.take i)) (Sum.inr x) (V.int (maxD (0 :: R)))))) r = some (.lst (o.map V.str)) := by
      rw [upd_ne hne]; exact (e3.trans e4) r _ hp
    have hd5 : (upd H4 d (.dK (putK (dOf F (o.take i)) (Sum.inr x) (V.int (maxD (0 :: R)))))) d = some (.dK (dOf (put1 F x (maxD (0 :: R))) (o.take (i + 1)))) := by
      rw [upd_same, hput]
    generalize upd H4 d (.dK (putK (dOf F (o.take i)) (Sum.inr x) (V.int (maxD (0 :: R))))) = H5 at *
    refine s_when (b := decide (0 < (R.length : Int))) (et_test (ev_op (ev_is (ev_len (ev_var rfl) (sq_of hrr5)) (by rw [List.length_map])) ev_c rv_I0)) (fun hb H6 e6 => ?_) (fun hb H6 e6 => ?_)
    · have hpos := of_decide_eq_true hb
      have hRne : R ≠ [] := fun e => by rw [e] at hpos; simp at hpos
      generalize hD : draw ns (k + ((dOf (put1 F x (maxD (0 :: R))) (o.take (i + 1))).length : Int)) 12 = D
      have hD0 : 0 ≤ D := by rw [← hD]; exact draw_lo _ _ (by decide)
      have hxin : x ∈ o.take (i + 1) := by rw [hts]; exact List.mem_append_right _ List.mem_cons_self
      refine s_dput (v := .int (maxD (0 :: R) + D)) (e6 d _ hd5) (by rw [dOf_len, List.length_take]; omega) (ev_op (ev_dget (ev_var rfl) (ev_var rfl) (e6 d _ hd5) (by rw [val_dOf hxin, put1_same])) (ev_is (ev_draw (ev_var rfl) (ex_l (e05.trans e6) hS) (ev_op (ev_var rfl) (ev_lenD (ev_var rfl) (e6 d _ hd5)) rv_I0) ev_c (by decide)) (by rw [hD])) rv_I0) (ev_var rfl) (ev_var rfl) fun H7 e7 => ?_
      have e67 := e6.trans e7
      refine ⟨_, _, put1 F x (maxD (0 :: R) + D), rfl, Ex.mut (e05.trans e67) hdH, hne, ?_, ?_, late _ (fun h => ?_) fun r hr => ?_⟩
      · rw [upd_ne hne]; exact e67 r _ hr5
      · rw [upd_same, hts, put_over hno]
        refine congrArg (fun z => some (HO.dK z)) (dOf_congr fun y _ => ?_)
        by_cases ey : y = x
        · rw [ey, put1_same, put1_same]
        · rw [put1_ne ey, put1_ne ey, put1_ne ey]
      · exact absurd (by rw [← hR, h]; rfl) hRne
      · have := hle r hr
        omega
    · refine ⟨_, _, put1 F x (maxD (0 :: R)), rfl, e05.trans e6, hne, e6 r _ hr5, e6 d _ hd5, late _ (fun h => ?_) hle⟩
      have : R = [] := by rw [← hR, h]; rfl
      rw [this]
      rfl
  · obtain ⟨y6, y7, F, rfl, e, hne, hp, hdd, hF⟩ := h
    rw [List.length_map, List.take_length] at hdd hF
    obtain ⟨hz, ps, hLS, hps⟩ := hL
    have hplen : ps.length = ls.length := Paired.length hps
    refine s_retL (el_is (ys := (diffs (latIn nds) ls F).map V.int) (el_lcL (f := fun _ => true) (v := fun i => match ls[i]? with | some l => .int (F l.2 - F l.1 - latIn nds l.1) | none => .non) (ev_var rfl) (ex_l e hLS) (by omega) (fun _ => rfl) (fun i v H2 e2 hv => ?_) (fun i v H2 e2 hv _ => ?_)) ?_) fun rr H3 hrr e3 h3 => q F rr H3 (e.trans e3) h3 hF
    · exact fun H6 e6 Q q => q H6 (Ex.refl H6)
    · obtain ⟨l, hl, p2, rfl, hn⟩ := paired_at hps hv
      have hn := ex_t (e.trans e2) hn
      obtain ⟨h1, h2⟩ := hin l (List.mem_of_getElem? hl)
      rw [hl]
      exact ev_op (ev_op (ev_dget (ev_var rfl) (ix1 rfl hn) (e2 d _ hdd) (val_dOf h2)) (ev_dget (ev_var rfl) (ix0 rfl hn) (e2 d _ hdd) (val_dOf h1)) rv_I0) (ev_latewhat (ev_var rfl) (ix0 rfl hn) (ex_t (e.trans e2) hPT) (hN.ex (e.trans e2)) (hsub _ h1)) rv_I0
    · rw [hplen]
      unfold diffs
      rw [List.map_map]
      exact given_all ls _ _ fun k l hl => by
        rw [hl]
        show V.int (F l.2 - F l.1 - latIn nds l.1) = V.int (F l.2 - (F l.1 + latIn nds l.1))
        rw [Int.sub_sub]
end
end K44
/-! K44Law7: the law. -/
namespace K44
open PySem PySem.Spec PyProof.Rows L2 Evl
theorem given_true (n : Nat) (v : Nat → V) : given n (fun _ => true) v = (List.range n).map v := by
  unfold given
  rw [List.filter_eq_self.mpr fun _ _ => rfl]
section
variable {K : PySem.W.Frag} {σ : L2.St} {H H' : Hp} {v : V} {te ta tb t0 t1 t2 td ty : TE} {D : Ends} {tz tu : TS}
theorem ev_dgetR {d : Addr} {kvs : List (Key × V)} {x : Str} {v : V} (hd : Ev td σ H (.ref d)) (hy : Ev ty σ H (.str x)) (h : Rd H d (.dK kvs)) (hv : valV kvs (Sum.inr x) = some v) : Ev (tDGet td ty) σ H v := fun H1 e Q q =>
  hd H1 e _ fun H2 e2 => hy H2 (e.trans e2) _ fun H3 e3 => ⟨d, v, rfl, .inl ⟨kvs, Sum.inr x, ex_rd ((e.trans e2).trans e3) h, rfl, hv.symm⟩, q H3 (e2.trans e3)⟩
theorem rv_neD {a b : Addr} {A : Str → Int} {o : List Str} (ha : H a = some (.dK (dOf A o))) (hb : H b = some (.dK (dOf A o))) : RV rNeDA (.ref a) (.ref b) H (.bl false) := fun H1 e Q q =>
  ⟨a, b, _, _, rfl, rfl, e a _ ha, e b _ hb, rfl, fun p hp => by
    obtain ⟨x, hx, rfl⟩ := List.mem_map.mp hp
    exact ⟨val_dOf hx, rfl⟩, q H1 (Ex.refl H1)⟩
def rIsN : R2 := fun x y H Q => y = .non ∧ Q (.bl (decide (x = .non))) H
theorem rv_isN {x : V} : RV rIsN x .non H (.bl (decide (x = .non))) := fun H1 _ _ q => ⟨rfl, q H1 (Ex.refl H1)⟩
def spLaw (K : PySem.W.Frag) : Sp := fun vs H Q _ => ∃ (a : Addr) (ns : List Int), vs = [.ref a] ∧ SqL K H a (ns.map V.int) ∧ ∀ H', Q (.bl true) H'
end
section
variable {P : Program} {w : World} {K : PySem.W.Frag} {mg : Str → Option Value} {base : Heap}
theorem ok_law (T : Tx K mg) : FnOk P w K mg base CX0 6 T.f_law T.d_law ["_law_script"] (spLaw K) := by
  refine T.t_law.F.ok sc_law (fun vs H Q E h => ?_) (fun cdv A outer s H vs Q E hr h => ?_)
  · obtain ⟨a, ns, rfl, _⟩ := h
    rfl
  obtain ⟨a, ns, rfl, hS, q⟩ := h
  refine ⟨_, (pss_cons (ps_set (i := 1) sc_law.nd rfl (.inl rfl) (pe_call (ok_parts T) (hr.mono (by decide)) (by rfl) T.t_parts.g T.t_parts.F.kp T.t_parts.b .nil pass0 (pa_cons (pv 0) (pa_cons pe_int (pa_cons pe_bl pa_nil)))))
      (pss_cons (ps_par (i := 2) (j := 3) (by rfl) sc_law.nd rfl rfl (by decide) rfl rfl (pa_cons (pe_ix (r := rIxT K) ix_tup (pv 1) pe_int (fun _ _ => rfl)) (pa_cons (pe_ix (r := rIxT K) ix_tup (pv 1) pe_int (fun _ _ => rfl)) pa_nil)) (by rfl))
      (pss_cons (ps_set (i := 4) sc_law.nd rfl (.inl rfl) (pe_call (ok_arr T) (hr.mono (by decide)) (by rfl) T.t_arr.g T.t_arr.F.kp T.t_arr.b .nil pass0 (pa_cons (pv 2) (pa_cons (pv 3) pa_nil))))
      (pss_cons (ps_if (pt_cmpR (op_ne_dictA (hu0_of hr)) (pe_call (ok_by T) (hr.mono (by decide)) (by rfl) T.t_by.g T.t_by.F.kp T.t_by.b .nil pass0 (pa_cons (pv 2) (pa_cons (pv 3) (pa_cons (pe_call (ok_made T) (hr.mono (by decide)) (by rfl) T.t_made.g T.t_made.F.kp T.t_made.b .nil pass0 (pa_cons (pv 2) (pa_cons (pv 3) pa_nil))) pa_nil)))) (pv 4) (nomark _)) (pss_one (ps_ret pe_bl)) pss_nil)
      (pss_cons (ps_setLc (i := 5) (own := [("_law_j", 8)]) (g := gName 8) rfl sc_law.nd rfl rfl (sw_true rfl rfl rfl (by decide +kernel)) (pi_range1 (by rfl) T.B.range (pa_cons (pe_callB call_len_seq (by rfl) T.B.len PySem.boot_len (pa_cons (pv 3) pa_nil)) pa_nil)) (blkOk_by (N := N_law) (sc := defScope s_law) (by decide +kernel)) (fun _ _ _ _ _ => pg_name (i := 8) sc_law.nd rfl (.inl rfl)) (fun _ _ _ _ _ => pts_nil) (fun _ _ _ _ _ => (pe_call (ok_draw T) (hr.mono (by decide)) (by rfl) T.t_draw.g T.t_draw.F.kp T.t_draw.b .nil pass0 (pa_cons (pv 0) (pa_cons (pe_op op_add pe_int (pv 8)) (pa_cons pe_int pa_nil))))))
      (pss_cut (ps_if (pt_cmpR op_eq (pe_call (ok_draw T) (hr.mono (by decide)) (by rfl) T.t_draw.g T.t_draw.F.kp T.t_draw.b .nil pass0 (pa_cons (pv 0) (pa_cons pe_int (pa_cons pe_int pa_nil)))) pe_int (nomark _)) (pss_one (ps_set (i := 5) sc_law.nd rfl (.inl rfl) (pe_call (ok_later T) (hr.mono (by decide)) (by rfl) T.t_later.g T.t_later.F.kp T.t_later.b .nil pass0 (pa_cons (pv 0) (pa_cons pe_int (pa_cons (pv 1) pa_nil)))))) pss_nil)
      (pss_cons (ps_set (i := 6) sc_law.nd rfl (.inl rfl) (pe_call (ok_by T) (hr.mono (by decide)) (by rfl) T.t_by.g T.t_by.F.kp T.t_by.b .nil pass0 (pa_cons (pv 2) (pa_cons (pv 3) (pa_cons (pv 5) pa_nil)))))
      (pss_cons (ps_if (pt_cmpR op_isN (pv 6) pe_non (nomark _)) (pss_one (ps_ret (pe_cmpR op_ne (pe_call (ok_draw T) (hr.mono (by decide)) (by rfl) T.t_draw.g T.t_draw.F.kp T.t_draw.b .nil pass0 (pa_cons (pv 0) (pa_cons pe_int (pa_cons pe_int pa_nil)))) pe_int (nomark _)))) pss_nil)
      (pss_cons (ps_lock (ps_for PassesOwn.never rfl (pi_keys (pv 4)) (pg_name (i := 7) sc_law.nd rfl (.inl rfl))
        (pss_one (ps_if (pt_cmpR op_lt (pe_dget (hu_of hr) (pv 6) (pv 7) (fun _ _ => rfl)) (pe_dget (hu_of hr) (pv 4) (pv 7) (fun _ _ => rfl)) (nomark _)) (pss_one (ps_ret pe_bl)) pss_nil))))
      (pss_one (ps_ret pe_bl))))))))))), ?_⟩
  -- the parts
  refine q_asgP (P := fun v H' => ∃ p tm tr pn pl nds ls, v = .ref p ∧ H' p = some (.tup [tm, tr, .ref pn, .ref pl]) ∧ NetAt K H' pn pl nds ls) (ep_call (ea_cons (ev_var rfl) (ea_cons ev_c (ea_cons ev_c ea_nil))) fun H1 e1 Q q E => ⟨a, ns, 0, rfl, ex_l e1 hS, fun p tm tr pn pl nds ls H2 e2 h2 hn => q _ H2 e2 ⟨p, tm, tr, pn, pl, nds, ls, rfl, h2, hn⟩⟩) fun v H1 e1 h1 => ?_
  obtain ⟨p, tm, tr, pn, pl, nds, ls, rfl, hp1, hN1, hL1, hR⟩ := h1
  refine q_par (ev_op (ev_var rfl) ev_c (rv_ixT (st_of hp1) (atI_nat (j := 2) rfl))) (ev_op (ev_var rfl) ev_c (rv_ixT (st_of hp1) (atI_nat (j := 3) rfl))) fun H2 e2 => ?_
  have hN2 := hN1.ex e2
  have hL2 := hL1.ex e2
  have ho : Ord ls (ordOf nds ls) := ord_order _ _
  have hin : ∀ l ∈ ls, l.1 ∈ ordOf nds ls ∧ l.2 ∈ ordOf nds ls := fun l hl => ⟨mem_order hR (hR.fst l hl), mem_order hR (hR.snd l hl)⟩
  obtain ⟨A, hA⟩ := exists_arr ho (latIn nds)
  have hAd := diffs_ok hin (arr_zero hA) (arr_le hA)
  -- least = arrivals(nodes, lines)
  refine q_asgD (ed_call (ea_cons (ev_var rfl) (ea_cons (ev_var rfl) ea_nil)) fun H3 e3 Q q E => ⟨pn, pl, nds, ls, A, rfl, hN2.ex e3, hL2.ex e3, hA, fun d H4 hd e4 h4 => q d H4 hd e4 h4⟩) fun d H3 hd e3 hd3 => ?_
  have hN3 := hN2.ex e3
  have hL3 := hL2.ex e3
  have e03 := (e1.trans e2).trans e3
  -- made_up reaches each as arrivals says
  refine q_when (b := false) (et_test (ev_opP (P := fun v H' => ∃ p2, v = .ref p2 ∧ H' p2 = some (.dK (dOf A (ordOf nds ls)))) (ep_callP (S := fun vs H' => ∃ c, vs = [.ref pn, .ref pl, .ref c] ∧ H' c = some (.lst ((diffs (latIn nds) ls A).map V.int))) (fun H4 e4 Q q => eap_cons (ep_of (ev_var rfl)) (eap_cons (ep_of (ev_var rfl)) (eap_cons (P := fun v H' => ∃ c, v = .ref c ∧ H' c = some (.lst ((diffs (latIn nds) ls A).map V.int))) (ep_ofL (el_call (ea_cons (ev_var rfl) (ea_cons (ev_var rfl) ea_nil)) fun H5 e5 Q q E => ⟨pn, pl, nds, ls, A, rfl, hN3.ex e5, hL3.ex e5, hA, hin, fun c H6 hc e6 h6 => q c H6 hc e6 h6⟩)) eap_nil fun v Ha Hb e h => ?_) fun _ _ _ _ q => q) (fun _ _ _ _ q => q) H4 e4 Q fun vs H5 e5 h => ?_) fun vs H4 e4 h => ?_) (ev_var rfl) (fun v Ha Hb e h => ?_) fun v H4 e4 h => ?_)) (fun hb => Bool.noConfusion hb) fun _ H4 e4 => ?_
  · obtain ⟨c, rfl, hc⟩ := h
    exact ⟨c, rfl, e c _ hc⟩
  · obtain ⟨y, r1, rfl, rfl, y2, r2, rfl, rfl, y3, r3, rfl, ⟨c, rfl, hc⟩, rfl⟩ := h
    exact q _ H5 e5 ⟨c, rfl, hc⟩
  · obtain ⟨c, rfl, hc⟩ := h
    refine fun H5 e5 Q q E => ⟨pn, pl, c, nds, ls, diffs (latIn nds) ls A, A, rfl, hN3.ex (e4.trans e5), hL3.ex (e4.trans e5), sq_of (e5 c _ hc), by unfold diffs; rw [List.length_map], hAd.2.1, fun hnot => absurd ⟨hAd.1, hAd.2.2⟩ hnot, fun _ p2 H6 hp2 e6 h6 => q _ H6 e6 ⟨p2, rfl, h6⟩⟩
  · obtain ⟨p2, rfl, h⟩ := h
    exact ⟨p2, rfl, e p2 _ h⟩
  · obtain ⟨p2, rfl, h⟩ := h
    exact rv_neD h (e4 d _ hd3)
  have e04 := e03.trans e4
  have hpl : ∃ ps, SqL K H4 pl ps ∧ ps.length = ls.length := by
    obtain ⟨_, ps, h1, h2⟩ := hL3.ex e4
    exact ⟨ps, h1, Paired.length h2⟩
  obtain ⟨ps, hps, hpsl⟩ := hpl
  have hll := hL3.1
  -- delays
  refine q_asgL (el_is (ys := ((List.range ls.length).map fun (i : Nat) => draw ns (240 + (i : Int)) 30).map V.int) (el_lcR1 (n := (ls.length : Int)) (fun _ => true) (fun i => .int (draw ns (240 + (i : Int)) 30)) (ea_cons (ev_is (ev_len (ev_var rfl) hps) (by rw [hpsl])) ea_nil) ⟨by omega, by omega⟩ (fun _ => rfl) (fun i H5 e5 hi => ?_) (fun i H5 e5 hi _ => ?_)) ?_) fun c H5 hc e5 h5 => ?_
  · exact fun H6 e6 Q q => q H6 (Ex.refl H6)
  · exact ev_draw (ev_var rfl) (ex_l (e04.trans e5) hS) (ev_op ev_c (ev_var rfl) rv_I0) ev_c (by decide)
  · rw [given_true, List.map_map, show ((ls.length : Int)).toNat = ls.length by omega]
    rfl
  have e05 := e04.trans e5
  refine q_cut (M := fun σ' H' => ∃ c ds, σ' = [some (.ref a), some (.ref p), some (.ref pn), some (.ref pl), some (.ref d), some (.ref c), none, none, none] ∧ Ex H5 H' ∧ H' c = some (.lst (ds.map V.int)) ∧ ls.length = ds.length ∧ (draw ns 230 2 = 0 → ∃ F, IsBy (latIn nds) (ls.zip ds) (ordOf nds ls) F ∧ Together (latIn nds) ls ds (ordOf nds ls) F)) ?_ fun σ' H6 h => ?_
  · refine s_when (et_test (ev_op (ev_draw (ev_var rfl) (ex_l e05 hS) ev_c ev_c (by decide)) ev_c (rv_eq rfl))) (fun hb H6 e6 => ?_) (fun hb H6 e6 => ?_)
    · refine s_asgP (P := fun v H' => ∃ F q, v = .ref q ∧ H' q = some (.lst ((diffs (latIn nds) ls F).map V.int)) ∧ Late (latIn nds) ls (ordOf nds ls) F) (ep_call (ea_cons (ev_var rfl) (ea_cons ev_c (ea_cons (ev_var rfl) ea_nil))) fun H7 e7 Q q E => ⟨a, ns, 280, p, tm, tr, pn, pl, nds, ls, rfl, ex_l ((e05.trans e6).trans e7) hS, st_of (((((e2.trans e3).trans e4).trans e5).trans e6).trans e7 p _ hp1), hN3.ex (((e4.trans e5).trans e6).trans e7), hL3.ex (((e4.trans e5).trans e6).trans e7), hin, fun F q2 H8 e8 h8 hF => q _ H8 e8 ⟨F, q2, rfl, h8, hF⟩⟩) fun v H7 e7 h7 => ?_
      obtain ⟨F, q2, rfl, h7, hF⟩ := h7
      have hd := diffs_ok hin hF.1 hF.2
      exact ⟨q2, diffs (latIn nds) ls F, rfl, e6.trans e7, h7, by unfold diffs; rw [List.length_map], fun _ => ⟨F, hd.2.1, hd.1, hd.2.2⟩⟩
    · refine ⟨c, _, rfl, e6, e6 c _ h5, by rw [List.length_map, List.length_range], fun h0 => ?_⟩
      rw [h0] at hb
      exact absurd hb (by decide)
  obtain ⟨c', ds, rfl, e6, h6, hdl, hF⟩ := h
  have e06 := e05.trans e6
  have hd6 : H6 d = some (.dK (dOf A (ordOf nds ls))) := ((e4.trans e5).trans e6) d _ hd3
  have hBex : ∃ B, IsBy (latIn nds) (ls.zip ds) (ordOf nds ls) B ∧ (draw ns 230 2 = 0 → Together (latIn nds) ls ds (ordOf nds ls) B) := by
    by_cases h0 : draw ns 230 2 = 0
    · obtain ⟨F, h1, h2⟩ := hF h0
      exact ⟨F, h1, fun _ => h2⟩
    · obtain ⟨B, hB⟩ := exists_by ho (latIn nds) (ls.zip ds) fun z hz => (List.of_mem_zip (show (z.1, z.2) ∈ ls.zip ds from hz)).1
      exact ⟨B, hB, fun h => absurd h h0⟩
  obtain ⟨B, hB, hB0⟩ := hBex
  -- found = arrive_by(nodes, lines, delays)
  refine q_asgP (P := fun v H' => (v = .non ∧ ¬ Together (latIn nds) ls ds (ordOf nds ls) B) ∨ ∃ p2, v = .ref p2 ∧ p2 ≠ d ∧ H' p2 = some (.dK (dOf B (ordOf nds ls))) ∧ Together (latIn nds) ls ds (ordOf nds ls) B) (ep_call (ea_cons (ev_var rfl) (ea_cons (ev_var rfl) (ea_cons (ev_var rfl) ea_nil))) fun H7 e7 Q q E => ⟨pn, pl, c', nds, ls, ds, B, rfl, hN3.ex (((e4.trans e5).trans e6).trans e7), hL3.ex (((e4.trans e5).trans e6).trans e7), sq_of (e7 c' _ h6), hdl, hB, fun hnot H8 e8 => q _ H8 e8 (.inl ⟨rfl, hnot⟩), fun ht p2 H8 hp2 e8 h8 => q _ H8 e8 (.inr ⟨p2, rfl, (ne_of_none (e7 d _ hd6) hp2).symm, h8, ht⟩)⟩) fun v H7 e7 h7 => ?_
  have e07 := e06.trans e7
  refine q_when (et_test (ev_op (ev_var rfl) ev_c rv_isN)) (fun hb H8 e8 => ?_) (fun hb H8 e8 => ?_)
  · -- found is None
    rcases h7 with ⟨rfl, hnot⟩ | ⟨p2, rfl, _⟩
    · refine s_ret (ev_is (ev_op (ev_draw (ev_var rfl) (ex_l (e07.trans e8) hS) ev_c ev_c (by decide)) ev_c (rv_ne rfl)) (w := .bl true) ?_) fun H9 e9 => q H9
      have : ¬ (V.int (draw ns 230 2) = V.int 0) := fun h => hnot (hB0 (V.int.inj h))
      rw [decide_eq_false this]
      rfl
    · exact absurd hb (by simp)
  rcases h7 with ⟨rfl, hnot⟩ | ⟨p2, rfl, hpd, h7, ht⟩
  · exact absurd hb (by simp)
  have hge := none_earlier ho hdl ht.1 hA hB
  have hd8 : H8 d = some (.dK (dOf A (ordOf nds ls))) := (e7.trans e8) d _ hd6
  have hp8 : H8 p2 = some (.dK (dOf B (ordOf nds ls))) := e8 p2 _ h7
  -- nothing arrives earlier
  refine ⟨d, _, hd8, trivial, fun od => ?_⟩
  refine ⟨.ref d, rfl, d, od, rfl, .inl ⟨dOf A (ordOf nds ls), upd_same, ?_⟩⟩
  refine for_it walk_keys (fun i σ' H' => ∃ y7, σ' = [some (.ref a), some (.ref p), some (.ref pn), some (.ref pl), some (.ref d), some (.ref c'), some (.ref p2), y7, none] ∧ H' d = some (.frz od (.dK (dOf A (ordOf nds ls)))) ∧ H' p2 = some (.dK (dOf B (ordOf nds ls)))) ⟨none, rfl, upd_same, by rw [upd_ne hpd]; exact hp8⟩ (fun i σ' H' _ h => ?_) (fun i x σ' H' H9 hi h hy => ?_) (fun σ' H' h => ?_)
  · obtain ⟨_, _, h, _⟩ := h
    exact h
  · obtain ⟨y7, rfl, hd9, hp9⟩ := h
    obtain ⟨rfl, k, v, hkv, rfl⟩ := hy
    unfold dOf at hkv
    rw [List.getElem?_map] at hkv
    obtain ⟨x, hx⟩ : ∃ x, (ordOf nds ls)[i]? = some x := by
      cases e : (ordOf nds ls)[i]? with
      | none => rw [e] at hkv; cases hkv
      | some x => exact ⟨x, rfl⟩
    rw [hx] at hkv
    have hkv := Option.some.inj hkv
    injection hkv with hk hv
    subst hk hv
    have hxo : x ∈ ordOf nds ls := List.mem_of_getElem? hx
    have hle := hge x hxo
    refine s_when (b := decide (B x < A x)) (et_test (ev_op (ev_dgetR (ev_var rfl) (ev_var rfl) (.inl hp9) (val_dOf hxo)) (ev_dgetR (ev_var rfl) (ev_var rfl) (.inr ⟨od, hd9⟩) (val_dOf hxo)) rv_I0)) (fun hb H10 e10 => ?_) (fun hb H10 e10 => ?_)
    · have := of_decide_eq_true hb
      omega
    · exact ⟨_, rfl, e10 d _ hd9, e10 p2 _ hp9⟩
  · obtain ⟨y7, rfl, hd9, hp9⟩ := h
    refine ⟨hd9, ?_⟩
    dsimp only
    exact s_ret ev_c fun H10 e10 => q H10
end
end K44
/-! K44End: what the top has written; the law's own head. -/
namespace K44
open PySem PySem.Spec PyProof.Rows L2
theorem fn1_mk {K : PySem.W.Frag} {h : Heap} {mg : Str → Option Value} {x : Str} {st : Stmt} {ps : List Str} {f : Addr} {oc kV dc pm cd ct : Value} {od an : Option Addr} {sl : Array (Option Value)} (X : K.In h) (G : h.Ns mainGlobals mg)
    (a : PySem.W.nsIn K mainGlobals x = some (some (.ref f))) (l : K.lookup f = some ⟨oc, od, .func (PySem.W.fnOf x x (defArgs st) (defBody st) (defScope st) .none kV dc pm an cd ct), sl⟩) (c : PySem.W.codeIn K cd x = true) (k : PySem.W.keepIn K (.ref f) = true)
    (hb : ∀ (kV doc pm : Value) (an : Option Addr) (cdv ct : Value) (us : List Value), us.length = ps.length → bindArgs (PySem.W.fnOf x x (defArgs st) (defBody st) (defScope st) .none kV doc pm an cdv ct) ⟨us, []⟩ = pure (ps.zip us)) :
    Fn1 K mg x st ps f (PySem.W.fnOf x x (defArgs st) (defBody st) (defScope st) .none kV dc pm an cd ct) :=
  ⟨fun_mk l c k, (fun_mk l c k).binds hb, PySem.W.mg_of X G a⟩
theorem all_mk {l : PySem.W.OpenLaw} {w : World} {K : PySem.W.Frag} {h : Heap} {mg : Str → Option Value} {fa f0 f1 f2 f3 f4 f5 f6 f7 f8 f9 f10 f11 f12 f13 f14 f15 f16 f17 f18 f19 f20 f21 f22 f23 : Addr} (X : K.In h) (G : h.Ns mainGlobals mg) (hfa : mg "law" = some (.ref fa))
    {od0 an0 od1 an1 od2 an2 od3 an3 od4 an4 od5 an5 od6 an6 od7 an7 od8 an8 od9 an9 od10 an10 od11 an11 od12 an12 od13 an13 od14 an14 od15 an15 od16 an16 od17 an17 od18 an18 od19 an19 od20 an20 od21 an21 od22 an22 od23 an23 : Option Addr} {sl0 sl1 sl2 sl3 sl4 sl5 sl6 sl7 sl8 sl9 sl10 sl11 sl12 sl13 sl14 sl15 sl16 sl17 sl18 sl19 sl20 sl21 sl22 sl23 : Array (Option Value)} {oc0 kV0 dc0 pm0 cd0 ct0 oc1 kV1 dc1 pm1 cd1 ct1 oc2 kV2 dc2 pm2 cd2 ct2 oc3 kV3 dc3 pm3 cd3 ct3 oc4 kV4 dc4 pm4 cd4 ct4 oc5 kV5 dc5 pm5 cd5 ct5 oc6 kV6 dc6 pm6 cd6 ct6 oc7 kV7 dc7 pm7 cd7 ct7 oc8 kV8 dc8 pm8 cd8 ct8 oc9 kV9 dc9 pm9 cd9 ct9 oc10 kV10 dc10 pm10 cd10 ct10 oc11 kV11 dc11 pm11 cd11 ct11 oc12 kV12 dc12 pm12 cd12 ct12 oc13 kV13 dc13 pm13 cd13 ct13 oc14 kV14 dc14 pm14 cd14 ct14 oc15 kV15 dc15 pm15 cd15 ct15 oc16 kV16 dc16 pm16 cd16 ct16 oc17 kV17 dc17 pm17 cd17 ct17 oc18 kV18 dc18 pm18 cd18 ct18 oc19 kV19 dc19 pm19 cd19 ct19 oc20 kV20 dc20 pm20 cd20 ct20 oc21 kV21 dc21 pm21 cd21 ct21 oc22 kV22 dc22 pm22 cd22 ct22 oc23 kV23 dc23 pm23 cd23 ct23 : Value}
    (a0 : PySem.W.nsIn K mainGlobals "latency_of" = some (some (.ref f0))) (l0 : K.lookup f0 = some ⟨oc0, od0, .func (PySem.W.fnOf "latency_of" "latency_of" (defArgs s_lat) (defBody s_lat) (defScope s_lat) .none kV0 dc0 pm0 an0 cd0 ct0), sl0⟩) (c0 : PySem.W.codeIn K cd0 "latency_of" = true) (k0 : PySem.W.keepIn K (.ref f0) = true)
    (a1 : PySem.W.nsIn K mainGlobals "names_of" = some (some (.ref f1))) (l1 : K.lookup f1 = some ⟨oc1, od1, .func (PySem.W.fnOf "names_of" "names_of" (defArgs s_names) (defBody s_names) (defScope s_names) .none kV1 dc1 pm1 an1 cd1 ct1), sl1⟩) (c1 : PySem.W.codeIn K cd1 "names_of" = true) (k1 : PySem.W.keepIn K (.ref f1) = true)
    (a2 : PySem.W.nsIn K mainGlobals "spec_of" = some (some (.ref f2))) (l2 : K.lookup f2 = some ⟨oc2, od2, .func (PySem.W.fnOf "spec_of" "spec_of" (defArgs s_spec) (defBody s_spec) (defScope s_spec) .none kV2 dc2 pm2 an2 cd2 ct2), sl2⟩) (c2 : PySem.W.codeIn K cd2 "spec_of" = true) (k2 : PySem.W.keepIn K (.ref f2) = true)
    (a3 : PySem.W.nsIn K mainGlobals "inputs_of" = some (some (.ref f3))) (l3 : K.lookup f3 = some ⟨oc3, od3, .func (PySem.W.fnOf "inputs_of" "inputs_of" (defArgs s_inputs) (defBody s_inputs) (defScope s_inputs) .none kV3 dc3 pm3 an3 cd3 ct3), sl3⟩) (c3 : PySem.W.codeIn K cd3 "inputs_of" = true) (k3 : PySem.W.keepIn K (.ref f3) = true)
    (a4 : PySem.W.nsIn K mainGlobals "order_of" = some (some (.ref f4))) (l4 : K.lookup f4 = some ⟨oc4, od4, .func (PySem.W.fnOf "order_of" "order_of" (defArgs s_order) (defBody s_order) (defScope s_order) .none kV4 dc4 pm4 an4 cd4 ct4), sl4⟩) (c4 : PySem.W.codeIn K cd4 "order_of" = true) (k4 : PySem.W.keepIn K (.ref f4) = true)
    (a5 : PySem.W.nsIn K mainGlobals "arrivals" = some (some (.ref f5))) (l5 : K.lookup f5 = some ⟨oc5, od5, .func (PySem.W.fnOf "arrivals" "arrivals" (defArgs s_arr) (defBody s_arr) (defScope s_arr) .none kV5 dc5 pm5 an5 cd5 ct5), sl5⟩) (c5 : PySem.W.codeIn K cd5 "arrivals" = true) (k5 : PySem.W.keepIn K (.ref f5) = true)
    (a6 : PySem.W.nsIn K mainGlobals "leaves" = some (some (.ref f6))) (l6 : K.lookup f6 = some ⟨oc6, od6, .func (PySem.W.fnOf "leaves" "leaves" (defArgs s_leaves) (defBody s_leaves) (defScope s_leaves) .none kV6 dc6 pm6 an6 cd6 ct6), sl6⟩) (c6 : PySem.W.codeIn K cd6 "leaves" = true) (k6 : PySem.W.keepIn K (.ref f6) = true)
    (a7 : PySem.W.nsIn K mainGlobals "made_up" = some (some (.ref f7))) (l7 : K.lookup f7 = some ⟨oc7, od7, .func (PySem.W.fnOf "made_up" "made_up" (defArgs s_made) (defBody s_made) (defScope s_made) .none kV7 dc7 pm7 an7 cd7 ct7), sl7⟩) (c7 : PySem.W.codeIn K cd7 "made_up" = true) (k7 : PySem.W.keepIn K (.ref f7) = true)
    (a8 : PySem.W.nsIn K mainGlobals "arrive_by" = some (some (.ref f8))) (l8 : K.lookup f8 = some ⟨oc8, od8, .func (PySem.W.fnOf "arrive_by" "arrive_by" (defArgs s_by) (defBody s_by) (defScope s_by) .none kV8 dc8 pm8 an8 cd8 ct8), sl8⟩) (c8 : PySem.W.codeIn K cd8 "arrive_by" = true) (k8 : PySem.W.keepIn K (.ref f8) = true)
    (a9 : PySem.W.nsIn K mainGlobals "_law_draw" = some (some (.ref f9))) (l9 : K.lookup f9 = some ⟨oc9, od9, .func (PySem.W.fnOf "_law_draw" "_law_draw" (defArgs s_draw) (defBody s_draw) (defScope s_draw) .none kV9 dc9 pm9 an9 cd9 ct9), sl9⟩) (c9 : PySem.W.codeIn K cd9 "_law_draw" = true) (k9 : PySem.W.keepIn K (.ref f9) = true)
    (a10 : PySem.W.nsIn K mainGlobals "_law_size" = some (some (.ref f10))) (l10 : K.lookup f10 = some ⟨oc10, od10, .func (PySem.W.fnOf "_law_size" "_law_size" (defArgs s_size) (defBody s_size) (defScope s_size) .none kV10 dc10 pm10 an10 cd10 ct10), sl10⟩) (c10 : PySem.W.codeIn K cd10 "_law_size" = true) (k10 : PySem.W.keepIn K (.ref f10) = true)
    (a11 : PySem.W.nsIn K mainGlobals "_law_name" = some (some (.ref f11))) (l11 : K.lookup f11 = some ⟨oc11, od11, .func (PySem.W.fnOf "_law_name" "_law_name" (defArgs s_name) (defBody s_name) (defScope s_name) .none kV11 dc11 pm11 an11 cd11 ct11), sl11⟩) (c11 : PySem.W.codeIn K cd11 "_law_name" = true) (k11 : PySem.W.keepIn K (.ref f11) = true)
    (a12 : PySem.W.nsIn K mainGlobals "_law_tempo" = some (some (.ref f12))) (l12 : K.lookup f12 = some ⟨oc12, od12, .func (PySem.W.fnOf "_law_tempo" "_law_tempo" (defArgs s_tempo) (defBody s_tempo) (defScope s_tempo) .none kV12 dc12 pm12 an12 cd12 ct12), sl12⟩) (c12 : PySem.W.codeIn K cd12 "_law_tempo" = true) (k12 : PySem.W.keepIn K (.ref f12) = true)
    (a13 : PySem.W.nsIn K mainGlobals "_law_clip" = some (some (.ref f13))) (l13 : K.lookup f13 = some ⟨oc13, od13, .func (PySem.W.fnOf "_law_clip" "_law_clip" (defArgs s_clip) (defBody s_clip) (defScope s_clip) .none kV13 dc13 pm13 an13 cd13 ct13), sl13⟩) (c13 : PySem.W.codeIn K cd13 "_law_clip" = true) (k13 : PySem.W.keepIn K (.ref f13) = true)
    (a14 : PySem.W.nsIn K mainGlobals "_law_instrument" = some (some (.ref f14))) (l14 : K.lookup f14 = some ⟨oc14, od14, .func (PySem.W.fnOf "_law_instrument" "_law_instrument" (defArgs s_instr) (defBody s_instr) (defScope s_instr) .none kV14 dc14 pm14 an14 cd14 ct14), sl14⟩) (c14 : PySem.W.codeIn K cd14 "_law_instrument" = true) (k14 : PySem.W.keepIn K (.ref f14) = true)
    (a15 : PySem.W.nsIn K mainGlobals "_law_track_of" = some (some (.ref f15))) (l15 : K.lookup f15 = some ⟨oc15, od15, .func (PySem.W.fnOf "_law_track_of" "_law_track_of" (defArgs s_track) (defBody s_track) (defScope s_track) .none kV15 dc15 pm15 an15 cd15 ct15), sl15⟩) (c15 : PySem.W.codeIn K cd15 "_law_track_of" = true) (k15 : PySem.W.keepIn K (.ref f15) = true)
    (a16 : PySem.W.nsIn K mainGlobals "_law_effect" = some (some (.ref f16))) (l16 : K.lookup f16 = some ⟨oc16, od16, .func (PySem.W.fnOf "_law_effect" "_law_effect" (defArgs s_effect) (defBody s_effect) (defScope s_effect) .none kV16 dc16 pm16 an16 cd16 ct16), sl16⟩) (c16 : PySem.W.codeIn K cd16 "_law_effect" = true) (k16 : PySem.W.keepIn K (.ref f16) = true)
    (a17 : PySem.W.nsIn K mainGlobals "_law_shuffled" = some (some (.ref f17))) (l17 : K.lookup f17 = some ⟨oc17, od17, .func (PySem.W.fnOf "_law_shuffled" "_law_shuffled" (defArgs s_shuf) (defBody s_shuf) (defScope s_shuf) .none kV17 dc17 pm17 an17 cd17 ct17), sl17⟩) (c17 : PySem.W.codeIn K cd17 "_law_shuffled" = true) (k17 : PySem.W.keepIn K (.ref f17) = true)
    (a18 : PySem.W.nsIn K mainGlobals "_law_net" = some (some (.ref f18))) (l18 : K.lookup f18 = some ⟨oc18, od18, .func (PySem.W.fnOf "_law_net" "_law_net" (defArgs s_net) (defBody s_net) (defScope s_net) .none kV18 dc18 pm18 an18 cd18 ct18), sl18⟩) (c18 : PySem.W.codeIn K cd18 "_law_net" = true) (k18 : PySem.W.keepIn K (.ref f18) = true)
    (a19 : PySem.W.nsIn K mainGlobals "_law_parts" = some (some (.ref f19))) (l19 : K.lookup f19 = some ⟨oc19, od19, .func (PySem.W.fnOf "_law_parts" "_law_parts" (defArgs s_parts) (defBody s_parts) (defScope s_parts) .none kV19 dc19 pm19 an19 cd19 ct19), sl19⟩) (c19 : PySem.W.codeIn K cd19 "_law_parts" = true) (k19 : PySem.W.keepIn K (.ref f19) = true)
    (a20 : PySem.W.nsIn K mainGlobals "_law_what" = some (some (.ref f20))) (l20 : K.lookup f20 = some ⟨oc20, od20, .func (PySem.W.fnOf "_law_what" "_law_what" (defArgs s_what) (defBody s_what) (defScope s_what) .none kV20 dc20 pm20 an20 cd20 ct20), sl20⟩) (c20 : PySem.W.codeIn K cd20 "_law_what" = true) (k20 : PySem.W.keepIn K (.ref f20) = true)
    (a21 : PySem.W.nsIn K mainGlobals "_law_late" = some (some (.ref f21))) (l21 : K.lookup f21 = some ⟨oc21, od21, .func (PySem.W.fnOf "_law_late" "_law_late" (defArgs s_late) (defBody s_late) (defScope s_late) .none kV21 dc21 pm21 an21 cd21 ct21), sl21⟩) (c21 : PySem.W.codeIn K cd21 "_law_late" = true) (k21 : PySem.W.keepIn K (.ref f21) = true)
    (a22 : PySem.W.nsIn K mainGlobals "_law_later" = some (some (.ref f22))) (l22 : K.lookup f22 = some ⟨oc22, od22, .func (PySem.W.fnOf "_law_later" "_law_later" (defArgs s_later) (defBody s_later) (defScope s_later) .none kV22 dc22 pm22 an22 cd22 ct22), sl22⟩) (c22 : PySem.W.codeIn K cd22 "_law_later" = true) (k22 : PySem.W.keepIn K (.ref f22) = true)
    (a23 : PySem.W.nsIn K mainGlobals "law" = some (some (.ref f23))) (l23 : K.lookup f23 = some ⟨oc23, od23, .func (PySem.W.fnOf "law" "law" (defArgs s_law) (defBody s_law) (defScope s_law) .none kV23 dc23 pm23 an23 cd23 ct23), sl23⟩) (c23 : PySem.W.codeIn K cd23 "law" = true) (k23 : PySem.W.keepIn K (.ref f23) = true)
    (zlen : PySem.W.nsIn K mainGlobals "len" = some none) (zrange : PySem.W.nsIn K mainGlobals "range" = some none) (zall : PySem.W.nsIn K mainGlobals "all" = some none) (zany : PySem.W.nsIn K mainGlobals "any" = some none) (zmax : PySem.W.nsIn K mainGlobals "max" = some none) (zmin : PySem.W.nsIn K mainGlobals "min" = some none) (zint : PySem.W.nsIn K mainGlobals "int" = some none) (zlist : PySem.W.nsIn K mainGlobals "list" = some none) (ztuple : PySem.W.nsIn K mainGlobals "tuple" = some none) (zzip : PySem.W.nsIn K mainGlobals "zip" = some none) :
    ∃ fd : FuncData, (∀ (s : Shared) (v : Value), BindsTo s fd ⟨[v], []⟩ [("_law_script", v)]) ∧ ∀ base : Heap, K.In base → base.Ns mainGlobals mg → FnOk l.prog w K mg base CX0 6 fa fd ["_law_script"] (spLaw K) := by
  have e := hfa.symm.trans (PySem.W.mg_of X G a23)
  cases e
  refine ⟨PySem.W.fnOf "law" "law" (defArgs s_law) (defBody s_law) (defScope s_law) .none kV23 dc23 pm23 an23 cd23 ct23, fun s v => .of_eq rfl, fun base _ _ => ?_⟩
  exact ok_law (P := l.prog) (w := w) (base := base) ({
    B := ⟨PySem.W.mg_none_of X G zlen, PySem.W.mg_none_of X G zrange, PySem.W.mg_none_of X G zall, PySem.W.mg_none_of X G zany, PySem.W.mg_none_of X G zmax, PySem.W.mg_none_of X G zmin, PySem.W.mg_none_of X G zint, PySem.W.mg_none_of X G zlist, PySem.W.mg_none_of X G ztuple, PySem.W.mg_none_of X G zzip⟩
    f_lat := f0
    d_lat := PySem.W.fnOf "latency_of" "latency_of" (defArgs s_lat) (defBody s_lat) (defScope s_lat) .none kV0 dc0 pm0 an0 cd0 ct0
    t_lat := fn1_mk X G a0 l0 c0 k0 (fun _ _ _ _ _ _ us hl => match us, hl with | [_], _ => rfl)
    f_names := f1
    d_names := PySem.W.fnOf "names_of" "names_of" (defArgs s_names) (defBody s_names) (defScope s_names) .none kV1 dc1 pm1 an1 cd1 ct1
    t_names := fn1_mk X G a1 l1 c1 k1 (fun _ _ _ _ _ _ us hl => match us, hl with | [_], _ => rfl)
    f_spec := f2
    d_spec := PySem.W.fnOf "spec_of" "spec_of" (defArgs s_spec) (defBody s_spec) (defScope s_spec) .none kV2 dc2 pm2 an2 cd2 ct2
    t_spec := fn1_mk X G a2 l2 c2 k2 (fun _ _ _ _ _ _ us hl => match us, hl with | [_, _], _ => rfl)
    f_inputs := f3
    d_inputs := PySem.W.fnOf "inputs_of" "inputs_of" (defArgs s_inputs) (defBody s_inputs) (defScope s_inputs) .none kV3 dc3 pm3 an3 cd3 ct3
    t_inputs := fn1_mk X G a3 l3 c3 k3 (fun _ _ _ _ _ _ us hl => match us, hl with | [_, _], _ => rfl)
    f_order := f4
    d_order := PySem.W.fnOf "order_of" "order_of" (defArgs s_order) (defBody s_order) (defScope s_order) .none kV4 dc4 pm4 an4 cd4 ct4
    t_order := fn1_mk X G a4 l4 c4 k4 (fun _ _ _ _ _ _ us hl => match us, hl with | [_, _], _ => rfl)
    f_arr := f5
    d_arr := PySem.W.fnOf "arrivals" "arrivals" (defArgs s_arr) (defBody s_arr) (defScope s_arr) .none kV5 dc5 pm5 an5 cd5 ct5
    t_arr := fn1_mk X G a5 l5 c5 k5 (fun _ _ _ _ _ _ us hl => match us, hl with | [_, _], _ => rfl)
    f_leaves := f6
    d_leaves := PySem.W.fnOf "leaves" "leaves" (defArgs s_leaves) (defBody s_leaves) (defScope s_leaves) .none kV6 dc6 pm6 an6 cd6 ct6
    t_leaves := fn1_mk X G a6 l6 c6 k6 (fun _ _ _ _ _ _ us hl => match us, hl with | [_, _, _], _ => rfl)
    f_made := f7
    d_made := PySem.W.fnOf "made_up" "made_up" (defArgs s_made) (defBody s_made) (defScope s_made) .none kV7 dc7 pm7 an7 cd7 ct7
    t_made := fn1_mk X G a7 l7 c7 k7 (fun _ _ _ _ _ _ us hl => match us, hl with | [_, _], _ => rfl)
    f_by := f8
    d_by := PySem.W.fnOf "arrive_by" "arrive_by" (defArgs s_by) (defBody s_by) (defScope s_by) .none kV8 dc8 pm8 an8 cd8 ct8
    t_by := fn1_mk X G a8 l8 c8 k8 (fun _ _ _ _ _ _ us hl => match us, hl with | [_, _, _], _ => rfl)
    f_draw := f9
    d_draw := PySem.W.fnOf "_law_draw" "_law_draw" (defArgs s_draw) (defBody s_draw) (defScope s_draw) .none kV9 dc9 pm9 an9 cd9 ct9
    t_draw := fn1_mk X G a9 l9 c9 k9 (fun _ _ _ _ _ _ us hl => match us, hl with | [_, _, _], _ => rfl)
    f_size := f10
    d_size := PySem.W.fnOf "_law_size" "_law_size" (defArgs s_size) (defBody s_size) (defScope s_size) .none kV10 dc10 pm10 an10 cd10 ct10
    t_size := fn1_mk X G a10 l10 c10 k10 (fun _ _ _ _ _ _ us hl => match us, hl with | [_, _, _, _], _ => rfl)
    f_name := f11
    d_name := PySem.W.fnOf "_law_name" "_law_name" (defArgs s_name) (defBody s_name) (defScope s_name) .none kV11 dc11 pm11 an11 cd11 ct11
    t_name := fn1_mk X G a11 l11 c11 k11 (fun _ _ _ _ _ _ us hl => match us, hl with | [_, _, _], _ => rfl)
    f_tempo := f12
    d_tempo := PySem.W.fnOf "_law_tempo" "_law_tempo" (defArgs s_tempo) (defBody s_tempo) (defScope s_tempo) .none kV12 dc12 pm12 an12 cd12 ct12
    t_tempo := fn1_mk X G a12 l12 c12 k12 (fun _ _ _ _ _ _ us hl => match us, hl with | [_, _], _ => rfl)
    f_clip := f13
    d_clip := PySem.W.fnOf "_law_clip" "_law_clip" (defArgs s_clip) (defBody s_clip) (defScope s_clip) .none kV13 dc13 pm13 an13 cd13 ct13
    t_clip := fn1_mk X G a13 l13 c13 k13 (fun _ _ _ _ _ _ us hl => match us, hl with | [_, _], _ => rfl)
    f_instr := f14
    d_instr := PySem.W.fnOf "_law_instrument" "_law_instrument" (defArgs s_instr) (defBody s_instr) (defScope s_instr) .none kV14 dc14 pm14 an14 cd14 ct14
    t_instr := fn1_mk X G a14 l14 c14 k14 (fun _ _ _ _ _ _ us hl => match us, hl with | [_, _], _ => rfl)
    f_track := f15
    d_track := PySem.W.fnOf "_law_track_of" "_law_track_of" (defArgs s_track) (defBody s_track) (defScope s_track) .none kV15 dc15 pm15 an15 cd15 ct15
    t_track := fn1_mk X G a15 l15 c15 k15 (fun _ _ _ _ _ _ us hl => match us, hl with | [_, _, _], _ => rfl)
    f_effect := f16
    d_effect := PySem.W.fnOf "_law_effect" "_law_effect" (defArgs s_effect) (defBody s_effect) (defScope s_effect) .none kV16 dc16 pm16 an16 cd16 ct16
    t_effect := fn1_mk X G a16 l16 c16 k16 (fun _ _ _ _ _ _ us hl => match us, hl with | [_, _], _ => rfl)
    f_shuf := f17
    d_shuf := PySem.W.fnOf "_law_shuffled" "_law_shuffled" (defArgs s_shuf) (defBody s_shuf) (defScope s_shuf) .none kV17 dc17 pm17 an17 cd17 ct17
    t_shuf := fn1_mk X G a17 l17 c17 k17 (fun _ _ _ _ _ _ us hl => match us, hl with | [_, _, _], _ => rfl)
    f_net := f18
    d_net := PySem.W.fnOf "_law_net" "_law_net" (defArgs s_net) (defBody s_net) (defScope s_net) .none kV18 dc18 pm18 an18 cd18 ct18
    t_net := fn1_mk X G a18 l18 c18 k18 (fun _ _ _ _ _ _ us hl => match us, hl with | [_, _, _, _], _ => rfl)
    f_parts := f19
    d_parts := PySem.W.fnOf "_law_parts" "_law_parts" (defArgs s_parts) (defBody s_parts) (defScope s_parts) .none kV19 dc19 pm19 an19 cd19 ct19
    t_parts := fn1_mk X G a19 l19 c19 k19 (fun _ _ _ _ _ _ us hl => match us, hl with | [_, _, _], _ => rfl)
    f_what := f20
    d_what := PySem.W.fnOf "_law_what" "_law_what" (defArgs s_what) (defBody s_what) (defScope s_what) .none kV20 dc20 pm20 an20 cd20 ct20
    t_what := fn1_mk X G a20 l20 c20 k20 (fun _ _ _ _ _ _ us hl => match us, hl with | [_, _], _ => rfl)
    f_late := f21
    d_late := PySem.W.fnOf "_law_late" "_law_late" (defArgs s_late) (defBody s_late) (defScope s_late) .none kV21 dc21 pm21 an21 cd21 ct21
    t_late := fn1_mk X G a21 l21 c21 k21 (fun _ _ _ _ _ _ us hl => match us, hl with | [_], _ => rfl)
    f_later := f22
    d_later := PySem.W.fnOf "_law_later" "_law_later" (defArgs s_later) (defBody s_later) (defScope s_later) .none kV22 dc22 pm22 an22 cd22 ct22
    t_later := fn1_mk X G a22 l22 c22 k22 (fun _ _ _ _ _ _ us hl => match us, hl with | [_, _, _], _ => rfl)
    f_law := fa
    d_law := PySem.W.fnOf "law" "law" (defArgs s_law) (defBody s_law) (defScope s_law) .none kV23 dc23 pm23 an23 cd23 ct23
    t_law := fn1_mk X G a23 l23 c23 k23 (fun _ _ _ _ _ _ us hl => match us, hl with | [_], _ => rfl)
  } : Tx K mg)
end K44
open PySem PySem.W PyProof.Rows
set_option maxHeartbeats 0 in
theorem PySem.Challenge.cw_everyblock_k44_whole_nothing_arrives_ear_holds : PySem.Challenge.rw_everyblock_k44_whole_nothing_arrives_ear.Holds := by
  w_on; o_law; k_head; (case hw => w_witness2)
  k_fill
  refine L2.walk_of (l := PySem.Challenge.rw_everyblock_k44_whole_nothing_arrives_ear) (n := 63) (k := 6) (x := "_law_script") (CX := fun _ => L2.CX0) (sp := fun w => K44.spLaw _) rfl (by decide) rfl ⟨rfl, by decide, by decide⟩ (fun w h Y => PySem.W.kIn_of Y) ?F (fun _ _ a ns hl _ hS => ⟨a, ns, rfl, hS, fun _ => rfl⟩) (fun _ _ _ _ _ h => h)
  case F =>
    intro w mg fa h KX G hmg
    refine' K44.all_mk KX G hmg ?a0 ?l0 ?c0 ?k0 ?a1 ?l1 ?c1 ?k1 ?a2 ?l2 ?c2 ?k2 ?a3 ?l3 ?c3 ?k3 ?a4 ?l4 ?c4 ?k4 ?a5 ?l5 ?c5 ?k5 ?a6 ?l6 ?c6 ?k6 ?a7 ?l7 ?c7 ?k7 ?a8 ?l8 ?c8 ?k8 ?a9 ?l9 ?c9 ?k9 ?a10 ?l10 ?c10 ?k10 ?a11 ?l11 ?c11 ?k11 ?a12 ?l12 ?c12 ?k12 ?a13 ?l13 ?c13 ?k13 ?a14 ?l14 ?c14 ?k14 ?a15 ?l15 ?c15 ?k15 ?a16 ?l16 ?c16 ?k16 ?a17 ?l17 ?c17 ?k17 ?a18 ?l18 ?c18 ?k18 ?a19 ?l19 ?c19 ?k19 ?a20 ?l20 ?c20 ?k20 ?a21 ?l21 ?c21 ?k21 ?a22 ?l22 ?c22 ?k22 ?a23 ?l23 ?c23 ?k23 ?zlen ?zrange ?zall ?zany ?zmax ?zmin ?zint ?zlist ?ztuple ?zzip
    (case a0 => k_is); (case l0 => k_is); (case c0 => k_is); (case k0 => k_is)
    (case a1 => k_is); (case l1 => k_is); (case c1 => k_is); (case k1 => k_is)
    (case a2 => k_is); (case l2 => k_is); (case c2 => k_is); (case k2 => k_is)
    (case a3 => k_is); (case l3 => k_is); (case c3 => k_is); (case k3 => k_is)
    (case a4 => k_is); (case l4 => k_is); (case c4 => k_is); (case k4 => k_is)
    (case a5 => k_is); (case l5 => k_is); (case c5 => k_is); (case k5 => k_is)
    (case a6 => k_is); (case l6 => k_is); (case c6 => k_is); (case k6 => k_is)
    (case a7 => k_is); (case l7 => k_is); (case c7 => k_is); (case k7 => k_is)
    (case a8 => k_is); (case l8 => k_is); (case c8 => k_is); (case k8 => k_is)
    (case a9 => k_is); (case l9 => k_is); (case c9 => k_is); (case k9 => k_is)
    (case a10 => k_is); (case l10 => k_is); (case c10 => k_is); (case k10 => k_is)
    (case a11 => k_is); (case l11 => k_is); (case c11 => k_is); (case k11 => k_is)
    (case a12 => k_is); (case l12 => k_is); (case c12 => k_is); (case k12 => k_is)
    (case a13 => k_is); (case l13 => k_is); (case c13 => k_is); (case k13 => k_is)
    (case a14 => k_is); (case l14 => k_is); (case c14 => k_is); (case k14 => k_is)
    (case a15 => k_is); (case l15 => k_is); (case c15 => k_is); (case k15 => k_is)
    (case a16 => k_is); (case l16 => k_is); (case c16 => k_is); (case k16 => k_is)
    (case a17 => k_is); (case l17 => k_is); (case c17 => k_is); (case k17 => k_is)
    (case a18 => k_is); (case l18 => k_is); (case c18 => k_is); (case k18 => k_is)
    (case a19 => k_is); (case l19 => k_is); (case c19 => k_is); (case k19 => k_is)
    (case a20 => k_is); (case l20 => k_is); (case c20 => k_is); (case k20 => k_is)
    (case a21 => k_is); (case l21 => k_is); (case c21 => k_is); (case k21 => k_is)
    (case a22 => k_is); (case l22 => k_is); (case c22 => k_is); (case k22 => k_is)
    (case a23 => k_is); (case l23 => k_is); (case c23 => k_is); (case k23 => k_is)
    (case zlen => k_is); (case zrange => k_is); (case zall => k_is); (case zany => k_is); (case zmax => k_is); (case zmin => k_is); (case zint => k_is); (case zlist => k_is); (case ztuple => k_is); (case zzip => k_is)
