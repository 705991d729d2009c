import PyProof.Rows.All
import Wide.All
import OpenK.AllK
import Wide.FinOn
import HandS.ForMost
import HandS.Evl
import HandS.Walk
import HandS.Zip
import HandS.TupAny
import HandS.Deep
import HandS.IsInst
import HandS.TupLe
import HandS.Flow
import HandS.Codes
import HandS.Text
import HandS.Wide
import PySem.Challenge.RW_nearhours_k49_whole_plays
import KE.GoesMore
import KE.GoesZip
import KE.GoesEnum
import HandS.Defaults
import HandS.TupSets
import HandS.More
import HandS.WordsDict
import HandS.Star
import PyProof.ReprRoads
import PyProof.ReprBulk
import PyProof.CallFns
import KE.SortData
import HandS.SortOrd
import HandS.Conv
import KE.KDictCopyH
import KE.KDictWalk
import KE.KDictPairs
import HandS.Ends
import HandS.EndBits
set_option Elab.async false
set_option linter.all false
set_option maxRecDepth 100000
set_option maxHeartbeats 8000000
/-! Ways, least sums and the play: plain lists, no program. -/
namespace NhM
universe u
variable {α : Type} [DecidableEq α]

/-- a wire: its two towers, its bounds -/
structure Wire (α : Type) where
  a : α
  b : α
  lo : Int
  hi : Int
def Wire.wd (e : Wire α) : Int := e.hi - e.lo

/-- a wire between two towers of R -/
def Ed (E : List (Wire α)) (R : List α) (x y : α) (w : Int) : Prop :=
  x ∈ R ∧ y ∈ R ∧ ∃ e ∈ E, ((e.a = x ∧ e.b = y) ∨ (e.a = y ∧ e.b = x)) ∧ w = e.wd

/-- a way whose inner towers have the property M -/
inductive Con (E : List (Wire α)) (R : List α) (M : α → Prop) : α → α → Int → Prop
  | refl {x : α} : x ∈ R → Con E R M x x 0
  | edge {x y : α} {w : Int} : Ed E R x y w → Con E R M x y w
  | comp {x y z : α} {p q : Int} : Con E R M x y p → M y → Con E R M y z q → Con E R M x z (p + q)

abbrev Way (E : List (Wire α)) (R : List α) (x y : α) (w : Int) : Prop := Con E R (fun _ => True) x y w

def Least (E : List (Wire α)) (R : List α) (x y : α) : Option Int → Prop
  | none => ∀ w, ¬ Way E R x y w
  | some d => Way E R x y d ∧ ∀ w, Way E R x y w → d ≤ w

def Flat (E : List (Wire α)) : Prop := ∀ e ∈ E, 0 ≤ e.wd

section
variable {E : List (Wire α)} {R R' : List α} {M M' : α → Prop} {x y z : α} {p q w : Int}
theorem Ed.symm (h : Ed E R x y w) : Ed E R y x w := by
  obtain ⟨h1, h2, e, he, h3, h4⟩ := h
  exact ⟨h2, h1, e, he, h3.symm, h4⟩
theorem Ed.nonneg (f : Flat E) (h : Ed E R x y w) : 0 ≤ w := by
  obtain ⟨_, _, e, he, _, rfl⟩ := h
  exact f e he
theorem Ed.mono (s : ∀ t ∈ R, t ∈ R') (h : Ed E R x y w) : Ed E R' x y w := by
  obtain ⟨h1, h2, r⟩ := h
  exact ⟨s _ h1, s _ h2, r⟩
theorem Con.mem (h : Con E R M x y w) : x ∈ R ∧ y ∈ R := by
  induction h with
  | refl h => exact ⟨h, h⟩
  | edge h => exact ⟨h.1, h.2.1⟩
  | comp _ _ _ i1 i2 => exact ⟨i1.1, i2.2⟩
theorem Con.nonneg (f : Flat E) (h : Con E R M x y w) : 0 ≤ w := by
  induction h with
  | refl _ => exact Int.le_refl 0
  | edge h => exact h.nonneg f
  | comp _ _ _ i1 i2 => omega
theorem Con.symm (h : Con E R M x y w) : Con E R M y x w := by
  induction h with
  | refl h => exact .refl h
  | edge h => exact .edge h.symm
  | comp _ m _ i1 i2 =>
    rw [Int.add_comm]
    exact .comp i2 m i1
theorem Con.imp (s : ∀ t, M t → M' t) (h : Con E R M x y w) : Con E R M' x y w := by
  induction h with
  | refl h => exact .refl h
  | edge h => exact .edge h
  | comp _ m _ i1 i2 => exact .comp i1 (s _ m) i2
theorem Con.more (s : ∀ t ∈ R, t ∈ R') (h : Con E R M x y w) : Con E R' M x y w := by
  induction h with
  | refl h => exact .refl (s _ h)
  | edge h => exact .edge (h.mono s)
  | comp _ m _ i1 i2 => exact .comp i1 m i2
theorem Con.way (h : Con E R M x y w) : Way E R x y w := h.imp fun _ _ => True.intro
theorem Way.trans (h : Way E R x y p) (h' : Way E R y z q) : Way E R x z (p + q) := .comp h True.intro h'

theorem Least.uniq {r r' : Option Int} (h : Least E R x y r) (h' : Least E R x y r') : r = r' := by
  cases r with
  | none =>
    cases r' with
    | none => rfl
    | some d => exact (h d h'.1).elim
  | some d =>
    cases r' with
    | none => exact (h' d h.1).elim
    | some e =>
      have h1 := h.2 e h'.1
      have h2 := h'.2 d h.1
      have : d = e := by omega
      rw [this]
theorem Least.symm {r : Option Int} (h : Least E R x y r) : Least E R y x r := by
  cases r with
  | none => exact fun w k => h w k.symm
  | some d => exact ⟨h.1.symm, fun w k => h.2 w k.symm⟩

/-! ### paths without a tower twice -/
/-- a path, its last tower first -/
inductive NP (E : List (Wire α)) (R : List α) (s : α) : List α → Int → Prop
  | one : NP E R s [s] 0
  | step {b c : α} {l : List α} {u w : Int} : NP E R s (b :: l) u → Ed E R b c w → c ∉ (b :: l) → NP E R s (c :: b :: l) (u + w)
theorem NP.nodup {l : List α} {u : Int} {s : α} (h : NP E R s l u) : l.Nodup := by
  induction h with
  | one => simp
  | step _ _ hn ih => exact List.nodup_cons.mpr ⟨hn, ih⟩
theorem NP.sub {l : List α} {u : Int} {s : α} (hs : s ∈ R) (h : NP E R s l u) : ∀ t ∈ l, t ∈ R := by
  induction h with
  | one => intro t ht; simp at ht; rw [ht]; exact hs
  | step _ he _ ih =>
    intro t ht
    rcases List.mem_cons.mp ht with e | ht
    · rw [e]; exact he.2.1
    · exact ih t ht
theorem NP.way {l : List α} {u : Int} {s : α} (hs : s ∈ R) (h : NP E R s l u) : ∀ {b : α} {r : List α}, l = b :: r → Way E R s b u := by
  induction h with
  | one =>
    intro b r e
    injection e with e1 e2
    rw [← e1]; exact .refl hs
  | step _ he _ ih =>
    intro b r e
    injection e with e1 e2
    rw [← e1]
    exact Way.trans (ih rfl) (.edge he)
theorem NP.cut (f : Flat E) {l : List α} {u : Int} {s : α} (h : NP E R s l u) : ∀ c ∈ l, ∃ r v, NP E R s (c :: r) v ∧ v ≤ u := by
  induction h with
  | one =>
    intro c hc
    simp at hc
    rw [hc]
    exact ⟨[], 0, .one, Int.le_refl 0⟩
  | @step b d l u w hp he hn ih =>
    intro c hc
    rcases List.mem_cons.mp hc with e | hc
    · rw [e]; exact ⟨_, _, .step hp he hn, Int.le_refl _⟩
    · obtain ⟨r, v, h1, h2⟩ := ih c hc
      have := he.nonneg f
      exact ⟨r, v, h1, by omega⟩
theorem NP.to (f : Flat E) {s : α} : ∀ {x y : α} {w : Int}, Way E R x y w → ∀ {r : List α} {v : Int}, NP E R s (x :: r) v → ∃ r' v', NP E R s (y :: r') v' ∧ v' ≤ v + w := by
  intro x y w h
  induction h with
  | refl h => intro r v k; exact ⟨r, v, k, by omega⟩
  | @edge x y w h =>
    intro r v k
    by_cases hy : y ∈ x :: r
    · obtain ⟨r', v', k', hv⟩ := k.cut f y hy
      have := h.nonneg f
      exact ⟨r', v', k', by omega⟩
    · exact ⟨_, _, .step k h hy, Int.le_refl _⟩
  | comp _ _ _ i1 i2 =>
    intro r v k
    obtain ⟨r1, v1, k1, h1⟩ := i1 k
    obtain ⟨r2, v2, k2, h2⟩ := i2 k1
    exact ⟨r2, v2, k2, by omega⟩
theorem Way.path (f : Flat E) (h : Way E R x y w) : ∃ r v, NP E R x (y :: r) v ∧ v ≤ w := by
  obtain ⟨r, v, k, h1⟩ := NP.to f h (NP.one (E := E) (R := R) (s := x))
  exact ⟨r, v, k, by omega⟩

theorem nodup_le : ∀ (l R : List α), l.Nodup → (∀ t ∈ l, t ∈ R) → l.length ≤ R.length
  | [], _, _, _ => Nat.zero_le _
  | t :: l, R, hn, hs => by
    obtain ⟨h1, h2⟩ := List.nodup_cons.mp hn
    have hm : t ∈ R := hs t List.mem_cons_self
    have ih := nodup_le l (R.erase t) h2 fun v hv => by
      have hne : v ≠ t := fun e => h1 (e ▸ hv)
      exact (List.mem_erase_of_ne hne).mpr (hs v (List.mem_cons_of_mem _ hv))
    have hl := List.length_erase_of_mem hm
    have hp : 0 < R.length := List.length_pos_of_mem hm
    rw [List.length_cons]
    omega

/-! ### never more than all widths -/
def touch (t : α) (e : Wire α) : Bool := decide (e.a = t) || decide (e.b = t)
def total (E : List (Wire α)) : Int := (E.map Wire.wd).sum
theorem total_split (t : α) : ∀ E : List (Wire α), total E = total (E.filter (touch t)) + total (E.filter fun e => !touch t e)
  | [] => rfl
  | e :: E => by
    have ih := total_split t E
    unfold total at ih ⊢
    cases h : touch t e with
    | true =>
      rw [List.filter_cons_of_pos h, List.filter_cons_of_neg (by simp [h])]
      simp only [List.map_cons, List.sum_cons]
      omega
    | false =>
      rw [List.filter_cons_of_neg (by simp [h]), List.filter_cons_of_pos (by simp [h])]
      simp only [List.map_cons, List.sum_cons]
      omega
theorem total_ge : ∀ (E : List (Wire α)), Flat E → ∀ e ∈ E, e.wd ≤ total E ∧ 0 ≤ total E
  | [], _, e, h => by simp at h
  | g :: E, f, e, h => by
    have f' : Flat E := fun a ha => f a (List.mem_cons_of_mem _ ha)
    have z : 0 ≤ total E := by
      cases E with
      | nil => exact Int.le_refl 0
      | cons k E => exact (total_ge (k :: E) f' k List.mem_cons_self).2
    have g0 := f g List.mem_cons_self
    unfold total at z ⊢
    simp only [List.map_cons, List.sum_cons]
    rcases List.mem_cons.mp h with rfl | h
    · constructor <;> omega
    · have := (total_ge E f' e h).1
      unfold total at this
      constructor <;> omega
theorem total_nonneg (f : Flat E) : 0 ≤ total E := by
  cases E with
  | nil => exact Int.le_refl 0
  | cons k E => exact (total_ge _ f k List.mem_cons_self).2
theorem NP.total (f : Flat E) {l : List α} {u : Int} {s : α} (h : NP E R s l u) : ∀ E' : List (Wire α), Flat E' → (∀ e ∈ E, e.a ∈ l → e.b ∈ l → e ∈ E') → u ≤ total E' := by
  induction h with
  | one => intro E' f' _; exact total_nonneg f'
  | @step b c l u w hp he hn ih =>
    intro E' f' hs
    obtain ⟨_, _, e, hem, hab, rfl⟩ := he
    have hb : b ∈ b :: l := List.mem_cons_self
    have i := ih (E'.filter fun e => !touch c e) (fun e he => f' e (List.mem_filter.mp he).1) fun g hg ga gb => by
      refine List.mem_filter.mpr ⟨hs g hg (List.mem_cons_of_mem _ ga) (List.mem_cons_of_mem _ gb), ?_⟩
      have n1 : g.a ≠ c := fun z => hn (z ▸ ga)
      have n2 : g.b ≠ c := fun z => hn (z ▸ gb)
      simp [touch, n1, n2]
    have hin : e ∈ E' := by
      refine hs e hem ?_ ?_
      · rcases hab with ⟨z, _⟩ | ⟨z, _⟩
        · rw [z]; exact List.mem_cons_of_mem _ hb
        · rw [z]; exact List.mem_cons_self
      · rcases hab with ⟨_, z⟩ | ⟨_, z⟩
        · rw [z]; exact List.mem_cons_self
        · rw [z]; exact List.mem_cons_of_mem _ hb
    have ht : touch c e = true := by
      unfold touch
      rcases hab with ⟨_, z⟩ | ⟨z, _⟩ <;> simp [z]
    have g := (total_ge (E'.filter (touch c)) (fun e he => f' e (List.mem_filter.mp he).1) e (List.mem_filter.mpr ⟨hin, ht⟩)).1
    have sp := total_split c E'
    omega
theorem Least.total (f : Flat E) {d : Int} (h : Least E R x y (some d)) : d ≤ total E := by
  obtain ⟨r, v, k, hv⟩ := h.1.path f
  have h1 := k.total f E f fun e he _ _ => he
  have h2 := h.2 v (k.way h.1.mem.1 rfl)
  omega

/-! ### widths k times as great -/
def scale (k : Int) (e : Wire α) : Wire α := ⟨e.a, e.b, k * e.lo, k * e.hi⟩
theorem scale_wd (k : Int) (e : Wire α) : (scale k e).wd = k * e.wd := by
  unfold scale Wire.wd
  rw [Int.mul_sub]
theorem Ed.scale (k : Int) (h : Ed E R x y w) : Ed (E.map (scale k)) R x y (k * w) := by
  obtain ⟨h1, h2, e, he, h3, rfl⟩ := h
  exact ⟨h1, h2, NhM.scale k e, List.mem_map.mpr ⟨e, he, rfl⟩, h3, (scale_wd k e).symm⟩
theorem Ed.unscale {k : Int} (h : Ed (E.map (NhM.scale k)) R x y w) : ∃ v, w = k * v ∧ Ed E R x y v := by
  obtain ⟨h1, h2, e, he, h3, rfl⟩ := h
  obtain ⟨g, hg, rfl⟩ := List.mem_map.mp he
  exact ⟨g.wd, scale_wd k g, h1, h2, g, hg, h3, rfl⟩
theorem Con.scale (k : Int) (h : Con E R M x y w) : Con (E.map (NhM.scale k)) R M x y (k * w) := by
  induction h with
  | refl h => rw [Int.mul_zero]; exact .refl h
  | edge h => exact .edge (h.scale k)
  | comp _ m _ i1 i2 => rw [Int.mul_add]; exact .comp i1 m i2
theorem Con.unscale {k : Int} (h : Con (E.map (NhM.scale k)) R M x y w) : ∃ v, w = k * v ∧ Con E R M x y v := by
  induction h with
  | refl h => exact ⟨0, (Int.mul_zero k).symm, .refl h⟩
  | edge h =>
    obtain ⟨v, e, h⟩ := h.unscale
    exact ⟨v, e, .edge h⟩
  | comp _ m _ i1 i2 =>
    obtain ⟨v1, e1, h1⟩ := i1
    obtain ⟨v2, e2, h2⟩ := i2
    exact ⟨v1 + v2, by rw [e1, e2, Int.mul_add], .comp h1 m h2⟩
theorem Least.scale {k : Int} (hk : 0 ≤ k) {r : Option Int} (h : Least E R x y r) : Least (E.map (NhM.scale k)) R x y (r.map (k * ·)) := by
  cases r with
  | none =>
    intro w hw
    obtain ⟨v, _, hv⟩ := hw.unscale
    exact h v hv
  | some d =>
    refine ⟨h.1.scale k, fun w hw => ?_⟩
    obtain ⟨v, rfl, hv⟩ := hw.unscale
    exact Int.mul_le_mul_of_nonneg_left (h.2 v hv) hk
end

/-! ### lots, rests, the play -/
def less (l t : List α) : List α := l.filter fun x => !decide (x ∈ t)
theorem mem_less {l t : List α} {x : α} : x ∈ less l t ↔ x ∈ l ∧ x ∉ t := by
  unfold less
  rw [List.mem_filter]
  simp
theorem less_comm (l s t : List α) : less (less l s) t = less (less l t) s := by
  unfold less
  rw [List.filter_filter, List.filter_filter]
  congr 1
  funext x
  exact Bool.and_comm _ _
/-- the towers that are in neither of two lots, without two towers -/
def rest (T a b : List α) (x y : α) : List α := less (less T (less a [x, y])) (less b [x, y])
theorem mem_rest {T a b : List α} {x y t : α} : t ∈ rest T a b x y ↔ t ∈ T ∧ ((t ∉ a ∧ t ∉ b) ∨ t = x ∨ t = y) := by
  unfold rest
  rw [mem_less, mem_less, mem_less, mem_less]
  simp only [List.mem_cons, List.not_mem_nil, or_false, not_or, not_and]
  constructor
  · rintro ⟨⟨h, k1⟩, k2⟩
    refine ⟨h, ?_⟩
    by_cases h1 : t = x
    · exact .inr (.inl h1)
    · by_cases h2 : t = y
      · exact .inr (.inr h2)
      · exact .inl ⟨fun z => k1 z h1 h2, fun z => k2 z h1 h2⟩
  · rintro ⟨h, k⟩
    refine ⟨⟨h, fun z n1 n2 => ?_⟩, fun z n1 n2 => ?_⟩
    · rcases k with ⟨k, _⟩ | k | k
      · exact k z
      · exact n1 k
      · exact n2 k
    · rcases k with ⟨_, k⟩ | k | k
      · exact k z
      · exact n1 k
      · exact n2 k
theorem rest_swap (T a b : List α) (x y : α) : rest T a b x y = rest T b a x y := less_comm _ _ _
theorem rest_flip (T a b : List α) (x y : α) : rest T a b x y = rest T a b y x := by
  have e : ∀ l : List α, less l [x, y] = less l [y, x] := fun l => by
    unfold less
    congr 1
    funext z
    have : (z ∈ [x, y]) = (z ∈ [y, x]) := by simp [or_comm]
    simp [or_comm]
  unfold rest
  rw [e a, e b]

def PlaySpec (T : List α) (E : List (Wire α)) (F : List (List α)) : Option Int → Prop
  | none => ∃ a ∈ F, ∃ b ∈ F, ∃ x ∈ T, ∃ y ∈ T, x ≠ y ∧ Least E (rest T a b x y) x y none
  | some d => 0 ≤ d ∧ (∀ a ∈ F, ∀ b ∈ F, ∀ x ∈ T, ∀ y ∈ T, x ≠ y → ∃ e, Least E (rest T a b x y) x y (some e) ∧ e ≤ d) ∧
      (d = 0 ∨ ∃ a ∈ F, ∃ b ∈ F, ∃ x ∈ T, ∃ y ∈ T, x ≠ y ∧ Least E (rest T a b x y) x y (some d))
section
variable {T : List α} {E : List (Wire α)} {F : List (List α)}
theorem PlaySpec.uniq {r r' : Option Int} (h : PlaySpec T E F r) (h' : PlaySpec T E F r') : r = r' := by
  have one : ∀ {d : Int}, PlaySpec T E F none → PlaySpec T E F (some d) → False := by
    rintro d ⟨a, ha, b, hb, x, hx, y, hy, hne, hl⟩ ⟨_, k, _⟩
    obtain ⟨e, he, _⟩ := k a ha b hb x hx y hy hne
    cases hl.uniq he
  have two : ∀ {d e : Int}, PlaySpec T E F (some d) → PlaySpec T E F (some e) → d ≤ e := by
    rintro d e ⟨_, _, k⟩ ⟨h0, k2, _⟩
    rcases k with rfl | ⟨a, ha, b, hb, x, hx, y, hy, hne, hl⟩
    · exact h0
    · obtain ⟨e', he, hle⟩ := k2 a ha b hb x hx y hy hne
      have : some d = some e' := hl.uniq he
      injection this with z
      omega
  cases r with
  | none =>
    cases r' with
    | none => rfl
    | some d => exact (one h h').elim
  | some d =>
    cases r' with
    | none => exact (one h' h).elim
    | some e =>
      have h1 := two h h'
      have h2 := two h' h
      have : d = e := by omega
      rw [this]
theorem PlaySpec.scale {k : Int} (hk : 0 ≤ k) {r : Option Int} (h : PlaySpec T E F r) : PlaySpec T (E.map (NhM.scale k)) F (r.map (k * ·)) := by
  cases r with
  | none =>
    obtain ⟨a, ha, b, hb, x, hx, y, hy, hne, hl⟩ := h
    exact ⟨a, ha, b, hb, x, hx, y, hy, hne, hl.scale hk⟩
  | some d =>
    obtain ⟨h0, h1, h2⟩ := h
    refine ⟨Int.mul_nonneg hk h0, fun a ha b hb x hx y hy hne => ?_, ?_⟩
    · obtain ⟨e, he, hle⟩ := h1 a ha b hb x hx y hy hne
      exact ⟨k * e, he.scale hk, Int.mul_le_mul_of_nonneg_left hle hk⟩
    · rcases h2 with rfl | ⟨a, ha, b, hb, x, hx, y, hy, hne, hl⟩
      · exact .inl (Int.mul_zero k)
      · exact .inr ⟨a, ha, b, hb, x, hx, y, hy, hne, hl.scale hk⟩
theorem PlaySpec.total (f : Flat E) {d : Int} (h : PlaySpec T E F (some d)) : d ≤ total E := by
  obtain ⟨_, _, h2⟩ := h
  rcases h2 with rfl | ⟨a, ha, b, hb, x, hx, y, hy, hne, hl⟩
  · exact total_nonneg f
  · exact hl.total f
theorem PlaySpec.nonneg {d : Int} (h : PlaySpec T E F (some d)) : 0 ≤ d := h.1

/-! ### the program's own way to it: some choices, each with its least sum -/
/-- quadruples (one, other, first, last): each is of two fears and two towers; for each two fears and each two towers one of both turns stands there -/
structure ChoicesOk (T : List α) (F : List (List α)) (cs : List (List α × List α × α × α)) : Prop where
  sound : ∀ c ∈ cs, ∃ a ∈ F, ∃ b ∈ F, ∃ x ∈ T, ∃ y ∈ T, x ≠ y ∧ c = (less a [x, y], less b [x, y], x, y)
  full : ∀ a ∈ F, ∀ b ∈ F, ∀ x ∈ T, ∀ y ∈ T, x ≠ y → ∃ u v, ((u = x ∧ v = y) ∨ (u = y ∧ v = x)) ∧ ((less a [u, v], less b [u, v], u, v) ∈ cs ∨ (less b [u, v], less a [u, v], u, v) ∈ cs)
theorem ChoicesOk.some_of {cs : List (List α × List α × α × α)} (C : ChoicesOk T F cs) {a b : List α} (ha : a ∈ F) (hb : b ∈ F) {x y : α} (hx : x ∈ T) (hy : y ∈ T) (hne : x ≠ y) :
    ∃ c ∈ cs, ∀ r, Least E (less (less T c.1) c.2.1) c.2.2.1 c.2.2.2 r ↔ Least E (rest T a b x y) x y r := by
  obtain ⟨u, v, huv, hc⟩ := C.full a ha b hb x hx y hy hne
  have key : ∀ r, Least E (rest T a b u v) u v r ↔ Least E (rest T a b x y) x y r := fun r => by
    rcases huv with ⟨rfl, rfl⟩ | ⟨rfl, rfl⟩
    · exact Iff.rfl
    · rw [rest_flip]; exact ⟨Least.symm, Least.symm⟩
  rcases hc with hc | hc
  · exact ⟨_, hc, fun r => key r⟩
  · refine ⟨_, hc, fun r => ?_⟩
    rw [← key r, rest_swap T a b u v] <;> exact Iff.rfl
/-- the greatest of 0 and the sums -/
theorem play_some {cs : List (List α × List α × α × α)} (C : ChoicesOk T F cs) {d : Int} (h1 : ∀ c ∈ cs, ∃ e, Least E (less (less T c.1) c.2.1) c.2.2.1 c.2.2.2 (some e) ∧ e ≤ d) (h0 : 0 ≤ d)
    (h2 : d = 0 ∨ ∃ c ∈ cs, Least E (less (less T c.1) c.2.1) c.2.2.1 c.2.2.2 (some d)) : PlaySpec T E F (some d) := by
  refine ⟨h0, fun a ha b hb x hx y hy hne => ?_, ?_⟩
  · obtain ⟨c, hc, k⟩ := C.some_of (E := E) ha hb hx hy hne
    obtain ⟨e, he, hle⟩ := h1 c hc
    exact ⟨e, (k _).mp he, hle⟩
  · rcases h2 with h2 | ⟨c, hc, hl⟩
    · exact .inl h2
    · obtain ⟨a, ha, b, hb, x, hx, y, hy, hne, rfl⟩ := C.sound c hc
      exact .inr ⟨a, ha, b, hb, x, hx, y, hy, hne, hl⟩
theorem play_none {cs : List (List α × List α × α × α)} (C : ChoicesOk T F cs) (h : ∃ c ∈ cs, Least E (less (less T c.1) c.2.1) c.2.2.1 c.2.2.2 none) : PlaySpec T E F none := by
  obtain ⟨c, hc, hl⟩ := h
  obtain ⟨a, ha, b, hb, x, hx, y, hy, hne, rfl⟩ := C.sound c hc
  exact ⟨a, ha, b, hb, x, hx, y, hy, hne, hl⟩
/-- two_by: no choice is unreached just if the play is told -/
theorem play_reach {cs : List (List α × List α × α × α)} (C : ChoicesOk T F cs) {r : Option Int} (h : PlaySpec T E F r) :
    (∀ c ∈ cs, ∃ w, Way E (less (less T c.1) c.2.1) c.2.2.1 c.2.2.2 w) ↔ r ≠ none := by
  constructor
  · intro k e
    subst e
    obtain ⟨a, ha, b, hb, x, hx, y, hy, hne, hl⟩ := h
    obtain ⟨c, hc, q⟩ := C.some_of (E := E) ha hb hx hy hne
    obtain ⟨w, hw⟩ := k c hc
    exact (q none).mpr hl w hw
  · intro k c hc
    cases r with
    | none => exact absurd rfl k
    | some d =>
      obtain ⟨a, ha, b, hb, x, hx, y, hy, hne, rfl⟩ := C.sound c hc
      obtain ⟨e, he, _⟩ := h.2.1 a ha b hb x hx y hy hne
      exact ⟨e, he.1⟩

/-! ### the law's own way to it -/
/-- all feared lots -/
def LotsOk (F L : List (List α)) : Prop := ∀ l, l ∈ L ↔ ∃ a ∈ F, l.Sublist a
/-- the sets of towers that are in neither of two feared lots -/
def RestsOk (T : List α) (L Rs : List (List α)) : Prop := ∀ R, R ∈ Rs ↔ ∃ A ∈ L, ∃ B ∈ L, R = less (less T A) B
/-- the greatest least sum within some towers -/
def WidestSpec (E : List (Wire α)) (R : List α) : Option Int → Prop
  | none => ∃ x ∈ R, ∃ y ∈ R, Least E R x y none
  | some d => 0 ≤ d ∧ (∀ x ∈ R, ∀ y ∈ R, ∃ e, Least E R x y (some e) ∧ e ≤ d) ∧ (d = 0 ∨ ∃ x ∈ R, ∃ y ∈ R, Least E R x y (some d))
theorem less_sub {l t : List α} : (less l t).Sublist l := List.filter_sublist
theorem rest_in {L Rs : List (List α)} (hL : LotsOk F L) (hR : RestsOk T L Rs) {a b : List α} (ha : a ∈ F) (hb : b ∈ F) (x y : α) : rest T a b x y ∈ Rs :=
  (hR _).mpr ⟨_, (hL _).mpr ⟨a, ha, less_sub⟩, _, (hL _).mpr ⟨b, hb, less_sub⟩, rfl⟩
theorem rest_of_in {L Rs : List (List α)} (hL : LotsOk F L) (hR : RestsOk T L Rs) {R : List α} (h : R ∈ Rs) {x y : α} (hx : x ∈ R) (hy : y ∈ R) :
    x ∈ T ∧ y ∈ T ∧ ∃ a ∈ F, ∃ b ∈ F, ∀ t ∈ rest T a b x y, t ∈ R := by
  obtain ⟨A, hA, B, hB, rfl⟩ := (hR _).mp h
  obtain ⟨a, ha, sa⟩ := (hL _).mp hA
  obtain ⟨b, hb, sb⟩ := (hL _).mp hB
  refine ⟨(mem_less.mp (mem_less.mp hx).1).1, (mem_less.mp (mem_less.mp hy).1).1, a, ha, b, hb, fun t ht => ?_⟩
  obtain ⟨h1, h2⟩ := mem_rest.mp ht
  rcases h2 with ⟨h2, h3⟩ | rfl | rfl
  · exact mem_less.mpr ⟨mem_less.mpr ⟨h1, fun z => h2 (sa.subset z)⟩, fun z => h3 (sb.subset z)⟩
  · exact hx
  · exact hy
theorem law_none {L Rs : List (List α)} (hL : LotsOk F L) (hR : RestsOk T L Rs) {R : List α} (h : R ∈ Rs) (hw : WidestSpec E R none) : PlaySpec T E F none := by
  obtain ⟨x, hx, y, hy, hl⟩ := hw
  obtain ⟨tx, ty, a, ha, b, hb, sub⟩ := rest_of_in hL hR h hx hy
  refine ⟨a, ha, b, hb, x, tx, y, ty, fun e => ?_, fun w hw => hl w (hw.more sub)⟩
  subst e
  exact hl 0 (.refl hx)
theorem law_some {L Rs : List (List α)} (hL : LotsOk F L) (hR : RestsOk T L Rs) {d : Int} (h0 : 0 ≤ d) (h1 : ∀ R ∈ Rs, ∃ e, WidestSpec E R (some e) ∧ e ≤ d) (h2 : d = 0 ∨ ∃ R ∈ Rs, WidestSpec E R (some d)) : PlaySpec T E F (some d) := by
  have all : ∀ a ∈ F, ∀ b ∈ F, ∀ x ∈ T, ∀ y ∈ T, ∃ e, Least E (rest T a b x y) x y (some e) ∧ e ≤ d := by
    intro a ha b hb x hx y hy
    obtain ⟨e, he, hle⟩ := h1 _ (rest_in hL hR ha hb x y)
    obtain ⟨e', he', hle'⟩ := he.2.1 x (mem_rest.mpr ⟨hx, .inr (.inl rfl)⟩) y (mem_rest.mpr ⟨hy, .inr (.inr rfl)⟩)
    exact ⟨e', he', by omega⟩
  refine ⟨h0, fun a ha b hb x hx y hy _ => all a ha b hb x hx y hy, ?_⟩
  rcases h2 with h2 | ⟨R, hm, _, _, hz | ⟨x, hx, y, hy, hl⟩⟩
  · exact .inl h2
  · exact .inl hz
  · obtain ⟨tx, ty, a, ha, b, hb, sub⟩ := rest_of_in hL hR hm hx hy
    by_cases e : x = y
    · subst e
      have z := hl.2 0 (.refl hx)
      exact .inl (by omega)
    · obtain ⟨e', he', hle⟩ := all a ha b hb x tx y ty
      have z := hl.2 e' (he'.1.more sub)
      have : e' = d := by omega
      subst this
      exact .inr ⟨a, ha, b, hb, x, tx, y, ty, e, he'⟩
end
end NhM

/-! The searches that the program and the law run, over plain functions. -/
namespace NhM
variable {α : Type} [DecidableEq α]
def put (f : α → Option Int) (t : α) (v : Int) : α → Option Int := fun u => if u = t then some v else f u
theorem put_same {f : α → Option Int} {t : α} {v : Int} : put f t v t = some v := if_pos rfl
theorem put_ne {f : α → Option Int} {t u : α} {v : Int} (h : u ≠ t) : put f t v u = f u := if_neg h

/-! ### least sums, lap by lap -/
/-- one direction of a wire -/
def bfS (R : List α) (x y : α) (w : Int) (f : α → Option Int) : α → Option Int :=
  match f x with
  | some s => if y ∈ R then put f y (match f y with
    | some o => if s + w ≤ o then s + w else o
    | none => s + w) else f
  | none => f
/-- both directions -/
def bfW (R : List α) (e : Wire α) (f : α → Option Int) : α → Option Int := bfS R e.b e.a e.wd (bfS R e.a e.b e.wd f)
def bfL (R : List α) (E : List (Wire α)) (f : α → Option Int) : α → Option Int := E.foldl (fun f e => bfW R e f) f
def bfN (R : List α) (E : List (Wire α)) : Nat → (α → Option Int) → α → Option Int
  | 0, f => f
  | n + 1, f => bfL R E (bfN R E n f)
def below (f g : α → Option Int) : Prop := ∀ t s, f t = some s → ∃ s', g t = some s' ∧ s' ≤ s
section
variable {R : List α} {E : List (Wire α)} {x y : α} {w : Int} {f g k : α → Option Int}
theorem below.refl (f : α → Option Int) : below f f := fun _ s h => ⟨s, h, Int.le_refl s⟩
theorem below.trans (a : below f g) (b : below g k) : below f k := fun t s h => by
  obtain ⟨s1, h1, l1⟩ := a t s h
  obtain ⟨s2, h2, l2⟩ := b t s1 h1
  exact ⟨s2, h2, by omega⟩
theorem bfS_below : below f (bfS R x y w f) := by
  intro t s h
  unfold bfS
  cases hx : f x with
  | none => exact ⟨s, h, Int.le_refl s⟩
  | some p =>
    by_cases hy : y ∈ R
    · simp only [hy, if_true]
      by_cases ht : t = y
      · subst ht
        rw [put_same, h]
        refine ⟨_, rfl, ?_⟩
        show (if p + w ≤ s then p + w else s) ≤ s
        split <;> omega
      · rw [put_ne ht]; exact ⟨s, h, Int.le_refl s⟩
    · simp only [hy, if_false]; exact ⟨s, h, Int.le_refl s⟩
theorem bfS_reach {s : Int} (hx : f x = some s) (hy : y ∈ R) : ∃ s', bfS R x y w f y = some s' ∧ s' ≤ s + w := by
  unfold bfS
  rw [hx]
  simp only [hy, if_true]
  rw [put_same]
  refine ⟨_, rfl, ?_⟩
  cases f y with
  | none => exact Int.le_refl _
  | some o =>
    show (if s + w ≤ o then s + w else o) ≤ s + w
    split <;> omega
theorem bfW_below {e : Wire α} : below f (bfW R e f) := bfS_below.trans bfS_below
theorem bfL_below : ∀ {E : List (Wire α)} {f : α → Option Int}, below f (bfL R E f)
  | [], _ => below.refl _
  | _ :: E, _ => bfW_below.trans (bfL_below (E := E))
theorem bfL_edge : ∀ {E : List (Wire α)} {f : α → Option Int} {e : Wire α} {s : Int}, e ∈ E → ((e.a = x ∧ e.b = y) ∨ (e.a = y ∧ e.b = x)) → f x = some s → y ∈ R →
    ∃ s', bfL R E f y = some s' ∧ s' ≤ s + e.wd
  | [], _, _, _, h, _, _, _ => by simp at h
  | g :: E, f, e, s, h, hab, hx, hy => by
    rcases List.mem_cons.mp h with rfl | h
    · have key : ∃ s', bfW R e f y = some s' ∧ s' ≤ s + e.wd := by
        unfold bfW
        rcases hab with ⟨rfl, rfl⟩ | ⟨rfl, rfl⟩
        · obtain ⟨s1, h1, l1⟩ := bfS_reach (w := e.wd) hx hy
          obtain ⟨s2, h2, l2⟩ := bfS_below (R := R) (x := e.b) (y := e.a) (w := e.wd) _ _ h1
          exact ⟨s2, h2, by omega⟩
        · obtain ⟨s1, h1, l1⟩ := bfS_below (R := R) (x := e.a) (y := e.b) (w := e.wd) _ _ hx
          obtain ⟨s2, h2, l2⟩ := bfS_reach (w := e.wd) h1 hy
          exact ⟨s2, h2, by omega⟩
      obtain ⟨s1, h1, l1⟩ := key
      obtain ⟨s2, h2, l2⟩ := bfL_below (R := R) (E := E) _ _ h1
      exact ⟨s2, h2, by omega⟩
    · obtain ⟨s1, h1, l1⟩ := bfW_below (R := R) (e := g) _ _ hx
      obtain ⟨s2, h2, l2⟩ := bfL_edge (E := E) h hab h1 hy
      exact ⟨s2, h2, by omega⟩
/-- each sum is a way's -/
def bfOk (E : List (Wire α)) (R : List α) (s : α) (f : α → Option Int) : Prop := ∀ t d, f t = some d → Way E R s t d
theorem bfS_ok {s : α} {e : Wire α} (he : e ∈ E) (hab : (e.a = x ∧ e.b = y) ∨ (e.a = y ∧ e.b = x)) (h : bfOk E R s f) : bfOk E R s (bfS R x y e.wd f) := by
  intro t d hd
  unfold bfS at hd
  cases hx : f x with
  | none => rw [hx] at hd; exact h t d hd
  | some p =>
    rw [hx] at hd
    by_cases hy : y ∈ R
    · simp only [hy, if_true] at hd
      by_cases ht : t = y
      · subst ht
        rw [put_same] at hd
        have hp := h x p hx
        have new : Way E R s t (p + e.wd) := hp.trans (.edge ⟨hp.mem.2, hy, e, he, hab, rfl⟩)
        cases ho : f t with
        | none =>
          rw [ho] at hd
          have : p + e.wd = d := Option.some.inj hd
          rw [← this]; exact new
        | some o =>
          rw [ho] at hd
          have hd' : (if p + e.wd ≤ o then p + e.wd else o) = d := Option.some.inj hd
          split at hd'
          · rw [← hd']; exact new
          · rw [← hd']; exact h t o ho
      · rw [put_ne ht] at hd; exact h t d hd
    · simp only [hy, if_false] at hd; exact h t d hd
theorem bfL_ok {s : α} : ∀ {E' : List (Wire α)} {f : α → Option Int}, (∀ e ∈ E', e ∈ E) → bfOk E R s f → bfOk E R s (bfL R E' f)
  | [], _, _, h => h
  | e :: E', f, hs, h => bfL_ok (E' := E') (fun g hg => hs g (List.mem_cons_of_mem _ hg)) (bfS_ok (hs e List.mem_cons_self) (.inr ⟨rfl, rfl⟩) (bfS_ok (hs e List.mem_cons_self) (.inl ⟨rfl, rfl⟩) h))
theorem bfN_ok {s : α} : ∀ {n : Nat} {f : α → Option Int}, bfOk E R s f → bfOk E R s (bfN R E n f)
  | 0, _, h => h
  | _ + 1, _, h => bfL_ok (fun _ h => h) (bfN_ok h)
theorem bfN_path {s : α} (h0 : ∃ d, f s = some d ∧ d ≤ 0) {l : List α} {u : Int} (h : NP E R s l u) : ∀ {b : α} {r : List α} (n : Nat), l = b :: r → r.length ≤ n → ∃ d, bfN R E n f b = some d ∧ d ≤ u := by
  have up : ∀ n, below f (bfN R E n f) := by
    intro n
    induction n with
    | zero => exact below.refl f
    | succ n ih => exact ih.trans bfL_below
  induction h with
  | one =>
    intro b r n e hl
    injection e with e1 e2
    subst e1
    obtain ⟨d, hd, hle⟩ := h0
    obtain ⟨d', hd', hle'⟩ := up n _ _ hd
    exact ⟨d', hd', by omega⟩
  | @step b c l u w hp he hn ih =>
    intro b' r n e hl
    injection e with e1 e2
    subst e1
    subst e2
    cases n with
    | zero => simp at hl
    | succ n =>
      obtain ⟨d, hd, hle⟩ := ih n rfl (by simpa using hl)
      obtain ⟨_, hc, e, hem, hab, rfl⟩ := he
      obtain ⟨d', hd', hle'⟩ := bfL_edge hem hab hd hc
      exact ⟨d', hd', by omega⟩
def bf0 (s : α) : α → Option Int := put (fun _ => none) s 0
theorem bf_least (fl : Flat E) {s t : α} (hs : s ∈ R) : Least E R s t (bfN R E R.length (bf0 s) t) := by
  have ok : bfOk E R s (bf0 s) := by
    intro t d hd
    unfold bf0 at hd
    by_cases ht : t = s
    · subst ht
      rw [put_same] at hd
      have : (0 : Int) = d := Option.some.inj hd
      rw [← this]; exact .refl hs
    · rw [put_ne ht] at hd; cases hd
  have full : ∀ w, Way E R s t w → ∃ d, bfN R E R.length (bf0 s) t = some d ∧ d ≤ w := by
    intro w hw
    obtain ⟨r, v, hp, hv⟩ := hw.path fl
    have hl := nodup_le _ R hp.nodup (hp.sub hs)
    rw [List.length_cons] at hl
    obtain ⟨d, hd, hle⟩ := bfN_path (f := bf0 s) ⟨0, put_same, Int.le_refl 0⟩ hp R.length rfl (by omega)
    exact ⟨d, hd, by omega⟩
  cases h : bfN R E R.length (bf0 s) t with
  | none =>
    intro w hw
    obtain ⟨d, hd, _⟩ := full w hw
    rw [h] at hd; cases hd
  | some d =>
    refine ⟨bfN_ok ok t d h, fun w hw => ?_⟩
    obtain ⟨d', hd', hle⟩ := full w hw
    rw [h] at hd'
    have : d = d' := Option.some.inj hd'
    omega
end

/-! ### the law's table -/
abbrev Tab (α : Type) := α → α → Option Int
def putT (g : Tab α) (x y : α) (v : Option Int) : Tab α := fun a b => if a = x ∧ b = y then v else g a b
theorem putT_same {g : Tab α} {x y : α} {v : Option Int} : putT g x y v x y = v := if_pos ⟨rfl, rfl⟩
theorem putT_ne {g : Tab α} {x y a b : α} {v : Option Int} (h : ¬ (a = x ∧ b = y)) : putT g x y v a b = g a b := if_neg h
def tab0 : Tab α := fun a b => if a = b then some 0 else none
def tabW (R : List α) (e : Wire α) (g : Tab α) : Tab α := if e.a ∈ R ∧ e.b ∈ R then putT (putT g e.a e.b (some e.wd)) e.b e.a (some e.wd) else g
def tabE (R : List α) (E : List (Wire α)) (g : Tab α) : Tab α := E.foldl (fun g e => tabW R e g) g
/-- one question of the table -/
def fwS (m x y : α) (g : Tab α) : Tab α :=
  match g x m, g m y with
  | some p, some q => (match g x y with
    | some r => if p + q < r then putT g x y (some (p + q)) else g
    | none => putT g x y (some (p + q)))
  | _, _ => g
def fwY (m x : α) (Y : List α) (g : Tab α) : Tab α := Y.foldl (fun g y => fwS m x y g) g
def fwX (m : α) (X Y : List α) (g : Tab α) : Tab α := X.foldl (fun g x => fwY m x Y g) g
def fwM (M X Y : List α) (g : Tab α) : Tab α := M.foldl (fun g m => fwX m X Y g) g
def tBelow (f g : Tab α) : Prop := ∀ a b s, f a b = some s → ∃ s', g a b = some s' ∧ s' ≤ s
section
variable {R : List α} {E : List (Wire α)} {x y m : α} {w : Int} {f g k : Tab α}
theorem tBelow.refl (f : Tab α) : tBelow f f := fun _ _ s h => ⟨s, h, Int.le_refl s⟩
theorem tBelow.trans (a : tBelow f g) (b : tBelow g k) : tBelow f k := fun t u s h => by
  obtain ⟨s1, h1, l1⟩ := a t u s h
  obtain ⟨s2, h2, l2⟩ := b t u s1 h1
  exact ⟨s2, h2, by omega⟩
theorem fwS_below : tBelow g (fwS m x y g) := by
  intro a b s h
  unfold fwS
  cases h1 : g x m with
  | none => exact ⟨s, h, Int.le_refl s⟩
  | some p =>
    cases h2 : g m y with
    | none => exact ⟨s, h, Int.le_refl s⟩
    | some q =>
      dsimp only
      cases h3 : g x y with
      | none =>
        dsimp only
        by_cases z : a = x ∧ b = y
        · rw [z.1, z.2, h3] at h; cases h
        · rw [putT_ne z]; exact ⟨s, h, Int.le_refl s⟩
      | some r =>
        dsimp only
        split
        · by_cases z : a = x ∧ b = y
          · rw [z.1, z.2, h3] at h
            have : r = s := Option.some.inj h
            rw [z.1, z.2, putT_same]
            exact ⟨_, rfl, by omega⟩
          · rw [putT_ne z]; exact ⟨s, h, Int.le_refl s⟩
        · exact ⟨s, h, Int.le_refl s⟩
theorem fwS_get {p q : Int} (h1 : g x m = some p) (h2 : g m y = some q) : ∃ s, fwS m x y g x y = some s ∧ s ≤ p + q := by
  unfold fwS
  rw [h1, h2]
  dsimp only
  cases h3 : g x y with
  | none => dsimp only; rw [putT_same]; exact ⟨_, rfl, Int.le_refl _⟩
  | some r =>
    dsimp only
    split
    · rw [putT_same]; exact ⟨_, rfl, Int.le_refl _⟩
    · exact ⟨r, h3, by omega⟩
theorem fwY_below : ∀ {Y : List α} {g : Tab α}, tBelow g (fwY m x Y g)
  | [], _ => tBelow.refl _
  | _ :: Y, _ => fwS_below.trans (fwY_below (Y := Y))
theorem fwX_below {Y : List α} : ∀ {X : List α} {g : Tab α}, tBelow g (fwX m X Y g)
  | [], _ => tBelow.refl _
  | _ :: X, _ => fwY_below.trans (fwX_below (X := X))
theorem fwY_get : ∀ {Y : List α} {g : Tab α} {p q : Int}, y ∈ Y → g x m = some p → g m y = some q → ∃ s, fwY m x Y g x y = some s ∧ s ≤ p + q
  | [], _, _, _, h, _, _ => by simp at h
  | z :: Y, g, p, q, h, h1, h2 => by
    rcases List.mem_cons.mp h with rfl | h
    · obtain ⟨s, hs, l⟩ := fwS_get h1 h2
      obtain ⟨s', hs', l'⟩ := fwY_below (m := m) (x := x) (Y := Y) _ _ _ hs
      exact ⟨s', hs', by omega⟩
    · obtain ⟨p', hp', lp⟩ := fwS_below (m := m) (x := x) (y := z) _ _ _ h1
      obtain ⟨q', hq', lq⟩ := fwS_below (m := m) (x := x) (y := z) _ _ _ h2
      obtain ⟨s, hs, l⟩ := fwY_get (Y := Y) h hp' hq'
      exact ⟨s, hs, by omega⟩
theorem fwX_get {Y : List α} (hy : y ∈ Y) : ∀ {X : List α} {g : Tab α} {p q : Int}, x ∈ X → g x m = some p → g m y = some q → ∃ s, fwX m X Y g x y = some s ∧ s ≤ p + q
  | [], _, _, _, h, _, _ => by simp at h
  | z :: X, g, p, q, h, h1, h2 => by
    rcases List.mem_cons.mp h with rfl | h
    · obtain ⟨s, hs, l⟩ := fwY_get hy h1 h2
      obtain ⟨s', hs', l'⟩ := fwX_below (m := m) (X := X) (Y := Y) _ _ _ hs
      exact ⟨s', hs', by omega⟩
    · obtain ⟨p', hp', lp⟩ := fwY_below (m := m) (x := z) (Y := Y) _ _ _ h1
      obtain ⟨q', hq', lq⟩ := fwY_below (m := m) (x := z) (Y := Y) _ _ _ h2
      obtain ⟨s, hs, l⟩ := fwX_get hy (X := X) h hp' hq'
      exact ⟨s, hs, by omega⟩
/-- each sum is a way's, and stands between towers of R -/
def tabOk (E : List (Wire α)) (R : List α) (g : Tab α) : Prop := ∀ a ∈ R, ∀ b ∈ R, ∀ d, g a b = some d → Way E R a b d
theorem fwS_ok (hm : m ∈ R) (hx : x ∈ R) (hy : y ∈ R) (h : tabOk E R g) : tabOk E R (fwS m x y g) := by
  intro a ha b hb d hd
  unfold fwS at hd
  cases h1 : g x m with
  | none => rw [h1] at hd; exact h a ha b hb d hd
  | some p =>
    cases h2 : g m y with
    | none => rw [h1, h2] at hd; exact h a ha b hb d hd
    | some q =>
      rw [h1, h2] at hd
      dsimp only at hd
      have new : Way E R x y (p + q) := (h x hx m hm p h1).trans (h m hm y hy q h2)
      have put_ : ∀ d, putT g x y (some (p + q)) a b = some d → Way E R a b d := by
        intro d hd
        by_cases z : a = x ∧ b = y
        · rw [z.1, z.2, putT_same] at hd
          have : p + q = d := Option.some.inj hd
          rw [← this, z.1, z.2]; exact new
        · rw [putT_ne z] at hd; exact h a ha b hb d hd
      cases h3 : g x y with
      | none => rw [h3] at hd; exact put_ d hd
      | some r =>
        rw [h3] at hd
        dsimp only at hd
        split at hd
        · exact put_ d hd
        · exact h a ha b hb d hd
theorem fwY_ok (hm : m ∈ R) (hx : x ∈ R) : ∀ {Y : List α} {g : Tab α}, (∀ y ∈ Y, y ∈ R) → tabOk E R g → tabOk E R (fwY m x Y g)
  | [], _, _, h => h
  | y :: Y, _, s, h => fwY_ok hm hx (Y := Y) (fun z hz => s z (List.mem_cons_of_mem _ hz)) (fwS_ok hm hx (s y List.mem_cons_self) h)
theorem fwX_ok (hm : m ∈ R) {Y : List α} (sY : ∀ y ∈ Y, y ∈ R) : ∀ {X : List α} {g : Tab α}, (∀ y ∈ X, y ∈ R) → tabOk E R g → tabOk E R (fwX m X Y g)
  | [], _, _, h => h
  | x :: X, _, s, h => fwX_ok hm sY (X := X) (fun z hz => s z (List.mem_cons_of_mem _ hz)) (fwY_ok hm (s x List.mem_cons_self) sY h)
theorem fwM_ok {X Y : List α} (sX : ∀ y ∈ X, y ∈ R) (sY : ∀ y ∈ Y, y ∈ R) : ∀ {M : List α} {g : Tab α}, (∀ y ∈ M, y ∈ R) → tabOk E R g → tabOk E R (fwM M X Y g)
  | [], _, _, h => h
  | m :: M, _, s, h => fwM_ok sX sY (M := M) (fun z hz => s z (List.mem_cons_of_mem _ hz)) (fwX_ok (s m List.mem_cons_self) sY sX h)
/-- the table is not above any way whose inner towers have the property -/
def tabFull (E : List (Wire α)) (R : List α) (M : α → Prop) (g : Tab α) : Prop := ∀ a b w, Con E R M a b w → ∃ d, g a b = some d ∧ d ≤ w
/-- one inner tower more -/
theorem con_more (fl : Flat E) {M : α → Prop} {a b : α} {w : Int} (h : Con E R (fun t => M t ∨ t = m) a b w) :
    (∃ v, Con E R M a b v ∧ v ≤ w) ∨ ∃ u v, Con E R M a m u ∧ Con E R M m b v ∧ u + v ≤ w := by
  induction h with
  | refl h => exact .inl ⟨0, .refl h, Int.le_refl 0⟩
  | edge h => exact .inl ⟨_, .edge h, Int.le_refl _⟩
  | @comp x y z p q h1 hm h2 i1 i2 =>
    have n1 := h1.nonneg fl
    have n2 := h2.nonneg fl
    rcases hm with hm | rfl
    · rcases i1 with ⟨u, k1, l1⟩ | ⟨u1, u2, k1, k2, l1⟩
      · rcases i2 with ⟨v, j1, l2⟩ | ⟨v1, v2, j1, j2, l2⟩
        · exact .inl ⟨u + v, .comp k1 hm j1, by omega⟩
        · exact .inr ⟨u + v1, v2, .comp k1 hm j1, j2, by omega⟩
      · rcases i2 with ⟨v, j1, l2⟩ | ⟨v1, v2, j1, j2, l2⟩
        · exact .inr ⟨u1, u2 + v, k1, .comp k2 hm j1, by omega⟩
        · have z1 := k2.nonneg fl
          have z2 := j1.nonneg fl
          exact .inr ⟨u1, v2, k1, j2, by omega⟩
    · have A : ∃ u, Con E R M x y u ∧ u ≤ p := by
        rcases i1 with ⟨u, k1, l1⟩ | ⟨u1, u2, k1, k2, l1⟩
        · exact ⟨u, k1, l1⟩
        · have z1 := k2.nonneg fl
          exact ⟨u1, k1, by omega⟩
      have B : ∃ u, Con E R M y z u ∧ u ≤ q := by
        rcases i2 with ⟨u, k1, l1⟩ | ⟨u1, u2, k1, k2, l1⟩
        · exact ⟨u, k1, l1⟩
        · have z1 := k1.nonneg fl
          exact ⟨u2, k2, by omega⟩
      obtain ⟨u, k1, l1⟩ := A
      obtain ⟨v, k2, l2⟩ := B
      exact .inr ⟨u, v, k1, k2, by omega⟩
theorem fwX_full (fl : Flat E) {M : α → Prop} (h : tabFull E R M g) : tabFull E R (fun t => M t ∨ t = m) (fwX m R R g) := by
  intro a b w hw
  obtain ⟨ha, hb⟩ := hw.mem
  rcases con_more fl hw with ⟨v, k, l⟩ | ⟨u, v, k1, k2, l⟩
  · obtain ⟨d, hd, ld⟩ := h a b v k
    obtain ⟨d', hd', ld'⟩ := fwX_below (m := m) (X := R) (Y := R) _ _ _ hd
    exact ⟨d', hd', by omega⟩
  · obtain ⟨p, hp, lp⟩ := h a m u k1
    obtain ⟨q, hq, lq⟩ := h m b v k2
    obtain ⟨s, hs, ls⟩ := fwX_get hb ha hp hq
    exact ⟨s, hs, by omega⟩
theorem fwM_full (fl : Flat E) : ∀ (l : List α) {M : α → Prop} {g : Tab α}, tabFull E R M g → tabFull E R (fun t => M t ∨ t ∈ l) (fwM l R R g)
  | [], M, g, h => fun a b w hw => h a b w (hw.imp fun t ht => by simpa using ht)
  | m :: l, M, g, h => fun a b w hw => fwM_full fl l (fwX_full (m := m) fl h) a b w (hw.imp fun t ht => by
      rcases ht with ht | ht
      · exact .inl (.inl ht)
      · rcases List.mem_cons.mp ht with ht | ht
        · exact .inl (.inr ht)
        · exact .inr ht)
/-- no two wires of the same two towers, none of one alone -/
def Simple (E : List (Wire α)) : Prop := (∀ e ∈ E, e.a ≠ e.b) ∧ E.Pairwise fun e g => ¬ ((e.a = g.a ∧ e.b = g.b) ∨ (e.a = g.b ∧ e.b = g.a))
theorem tabE_keep : ∀ {E' : List (Wire α)} {g : Tab α}, (∀ e ∈ E', ¬ ((e.a = x ∧ e.b = y) ∨ (e.a = y ∧ e.b = x))) → tabE R E' g x y = g x y
  | [], _, _ => rfl
  | e :: E', g, h => by
    have h0 := h e List.mem_cons_self
    have s : tabW R e g x y = g x y := by
      unfold tabW
      split
      · rw [putT_ne (fun z => h0 (.inr ⟨z.2.symm, z.1.symm⟩)), putT_ne (fun z => h0 (.inl ⟨z.1.symm, z.2.symm⟩))]
      · rfl
    show tabE R E' (tabW R e g) x y = g x y
    rw [tabE_keep (E' := E') fun k hk => h k (List.mem_cons_of_mem _ hk), s]
theorem tabE_get : ∀ {E' : List (Wire α)} {g : Tab α} {e : Wire α}, (∀ e ∈ E', e.a ≠ e.b) → (E'.Pairwise fun e g => ¬ ((e.a = g.a ∧ e.b = g.b) ∨ (e.a = g.b ∧ e.b = g.a))) → e ∈ E' → e.a ∈ R → e.b ∈ R →
    tabE R E' g e.a e.b = some e.wd ∧ tabE R E' g e.b e.a = some e.wd
  | [], _, _, _, _, h, _, _ => by simp at h
  | k :: E', g, e, hn, hp, h, ha, hb => by
    rcases List.mem_cons.mp h with rfl | h
    · obtain ⟨p1, _⟩ := List.pairwise_cons.mp hp
      have n := hn e List.mem_cons_self
      have k1 : ∀ q ∈ E', ¬ ((q.a = e.a ∧ q.b = e.b) ∨ (q.a = e.b ∧ q.b = e.a)) := fun q hq z => p1 q hq (by
        rcases z with ⟨z1, z2⟩ | ⟨z1, z2⟩
        · exact .inl ⟨z1.symm, z2.symm⟩
        · exact .inr ⟨z2.symm, z1.symm⟩)
      have k2 : ∀ q ∈ E', ¬ ((q.a = e.b ∧ q.b = e.a) ∨ (q.a = e.a ∧ q.b = e.b)) := fun q hq z => k1 q hq z.symm
      have s : tabW R e g e.a e.b = some e.wd ∧ tabW R e g e.b e.a = some e.wd := by
        unfold tabW
        rw [if_pos ⟨ha, hb⟩, putT_same]
        refine ⟨?_, rfl⟩
        rw [putT_ne (fun z => n z.1), putT_same]
      show tabE R E' (tabW R e g) e.a e.b = _ ∧ tabE R E' (tabW R e g) e.b e.a = _
      rw [tabE_keep k1, tabE_keep k2]
      exact s
    · exact tabE_get (E' := E') (fun q hq => hn q (List.mem_cons_of_mem _ hq)) (List.pairwise_cons.mp hp).2 h ha hb
theorem tabE_ok : ∀ {E' : List (Wire α)} {g : Tab α}, (∀ e ∈ E', e ∈ E) → tabOk E R g → tabOk E R (tabE R E' g)
  | [], _, _, h => h
  | e :: E', g, hs, h => by
    refine tabE_ok (E' := E') (g := tabW R e g) (fun q hq => hs q (List.mem_cons_of_mem _ hq)) ?_
    intro a ha b hb d hd
    have he := hs e List.mem_cons_self
    unfold tabW at hd
    split at hd
    · rename_i z
      by_cases z1 : a = e.b ∧ b = e.a
      · rw [z1.1, z1.2, putT_same] at hd
        have : e.wd = d := Option.some.inj hd
        rw [← this, z1.1, z1.2]
        exact .edge ⟨z.2, z.1, e, he, .inr ⟨rfl, rfl⟩, rfl⟩
      · rw [putT_ne z1] at hd
        by_cases z2 : a = e.a ∧ b = e.b
        · rw [z2.1, z2.2, putT_same] at hd
          have : e.wd = d := Option.some.inj hd
          rw [← this, z2.1, z2.2]
          exact .edge ⟨z.1, z.2, e, he, .inl ⟨rfl, rfl⟩, rfl⟩
        · rw [putT_ne z2] at hd; exact h a ha b hb d hd
    · exact h a ha b hb d hd
/-- the table when all is asked -/
def table (E : List (Wire α)) (R : List α) : Tab α := fwM R R R (tabE R E tab0)
theorem table_least (fl : Flat E) (si : Simple E) {a b : α} (ha : a ∈ R) (hb : b ∈ R) : Least E R a b (table E R a b) := by
  have ok0 : tabOk E R (tab0 : Tab α) := by
    intro a ha b hb d hd
    unfold tab0 at hd
    split at hd
    · rename_i z
      have : (0 : Int) = d := Option.some.inj hd
      rw [← this, z]; exact .refl hb
    · cases hd
  have ok : tabOk E R (table E R) := fwM_ok (fun _ h => h) (fun _ h => h) (fun _ h => h) (tabE_ok (fun _ h => h) ok0)
  have full0 : tabFull E R (fun _ => False) (tabE R E tab0) := by
    intro a b w hw
    induction hw with
    | @refl x h =>
      refine ⟨0, ?_, Int.le_refl 0⟩
      rw [tabE_keep]
      · show (if x = x then some (0 : Int) else none) = some 0
        rw [if_pos rfl]
      · intro e he z
        have n := si.1 e he
        rcases z with ⟨z1, z2⟩ | ⟨z1, z2⟩
        · exact n (z1.trans z2.symm)
        · exact n (z1.trans z2.symm)
    | edge h =>
      obtain ⟨hx, hy, e, he, hab, rfl⟩ := h
      rcases hab with ⟨rfl, rfl⟩ | ⟨rfl, rfl⟩
      · exact ⟨_, (tabE_get si.1 si.2 he hx hy).1, Int.le_refl _⟩
      · exact ⟨_, (tabE_get si.1 si.2 he hy hx).2, Int.le_refl _⟩
    | comp _ h _ _ _ => exact h.elim
  have full : tabFull E R (fun t => False ∨ t ∈ R) (table E R) := fwM_full fl R full0
  have full' : ∀ w, Way E R a b w → ∃ d, table E R a b = some d ∧ d ≤ w := by
    intro w hw
    obtain ⟨r, v, hp, hv⟩ := hw.path fl
    have inner : ∀ {l : List α} {u : Int}, NP E R a l u → ∀ {b : α} {r : List α}, l = b :: r → Con E R (fun t => False ∨ t ∈ R) a b u := by
      intro l u hp
      induction hp with
      | one =>
        intro b r e
        injection e with e1 e2
        rw [← e1]; exact .refl ha
      | step hp he hn ih =>
        intro b r e
        injection e with e1 e2
        rw [← e1]
        exact .comp (ih rfl) (.inr he.1) (.edge he)
    obtain ⟨d, hd, hle⟩ := full a b v (inner hp rfl)
    exact ⟨d, hd, by omega⟩
  cases h : table E R a b with
  | none =>
    intro w hw
    obtain ⟨d, hd, _⟩ := full' w hw
    rw [h] at hd; cases hd
  | some d =>
    refine ⟨ok a ha b hb d h, fun w hw => ?_⟩
    obtain ⟨d', hd', hle⟩ := full' w hw
    rw [h] at hd'
    have : d = d' := Option.some.inj hd'
    omega
end
end NhM

/-! Who is met from a tower; three lots that part the towers. -/
namespace NhM
variable {α : Type} [DecidableEq α]

/-! ### met_from -/
abbrev Df (α : Type) := List α × List α
def dfS (R : List α) (here late other : α) (s : Df α) : Df α := if late = here ∧ other ∈ R ∧ other ∉ s.1 then (s.1 ++ [other], s.2 ++ [other]) else s
def dfW (R : List α) (here : α) (e : Wire α) (s : Df α) : Df α := dfS R here e.b e.a (dfS R here e.a e.b s)
def dfE (R : List α) (E : List (Wire α)) (here : α) (s : Df α) : Df α := E.foldl (fun s e => dfW R here e s) s
/-- what is found is met; it holds the first one; what waits is found -/
structure DfOk (E : List (Wire α)) (R : List α) (s : α) (p : Df α) : Prop where
  nd : p.1.Nodup
  sub : ∀ t ∈ p.1, t ∈ R
  way : ∀ t ∈ p.1, ∃ w, Way E R s t w
  fst : s ∈ p.1
  wt : ∀ t ∈ p.2, t ∈ p.1
/-- t's neighbours by some wires are found -/
def DfCl (E : List (Wire α)) (R : List α) (fd : List α) (t : α) : Prop := ∀ e ∈ E, ∀ o ∈ R, ((e.a = t ∧ e.b = o) ∨ (e.a = o ∧ e.b = t)) → o ∈ fd
section
variable {R : List α} {E : List (Wire α)} {s here : α} {p : Df α}
theorem dfS_grow {late other : α} : ∀ t ∈ p.1, t ∈ (dfS R here late other p).1 := fun t ht => by
  unfold dfS
  split
  · exact List.mem_append_left _ ht
  · exact ht
theorem dfS_hit {late other : α} (h1 : late = here) (h2 : other ∈ R) : other ∈ (dfS R here late other p).1 := by
  unfold dfS
  by_cases h : other ∈ p.1
  · rw [if_neg (fun z => z.2.2 h)]; exact h
  · rw [if_pos ⟨h1, h2, h⟩]; exact List.mem_append_right _ List.mem_cons_self
theorem dfS_new {late other : α} : ∀ t ∈ (dfS R here late other p).1, t ∈ p.1 ∨ t ∈ (dfS R here late other p).2 := fun t ht => by
  unfold dfS at ht ⊢
  split at ht
  · rename_i h
    rw [if_pos h]
    rcases List.mem_append.mp ht with ht | ht
    · exact .inl ht
    · exact .inr (List.mem_append_right _ ht)
  · exact .inl ht
theorem dfS_wt {late other : α} : ∀ t ∈ p.2, t ∈ (dfS R here late other p).2 := fun t ht => by
  unfold dfS
  split
  · exact List.mem_append_left _ ht
  · exact ht
theorem dfS_ok {e : Wire α} {x y : α} (he : e ∈ E) (hab : (e.a = x ∧ e.b = y) ∨ (e.a = y ∧ e.b = x)) (hh : here ∈ p.1) (h : DfOk E R s p) : DfOk E R s (dfS R here x y p) := by
  unfold dfS
  split
  · rename_i z
    obtain ⟨z1, z2, z3⟩ := z
    refine ⟨?_, fun t ht => ?_, fun t ht => ?_, List.mem_append_left _ h.fst, fun t ht => ?_⟩
    · exact List.nodup_append.mpr ⟨h.nd, by simp, fun a ha b hb e => by simp at hb; rw [e, hb] at ha; exact z3 ha⟩
    · rcases List.mem_append.mp ht with ht | ht
      · exact h.sub t ht
      · simp at ht; rw [ht]; exact z2
    · rcases List.mem_append.mp ht with ht | ht
      · exact h.way t ht
      · simp at ht
        obtain ⟨w, hw⟩ := h.way here hh
        rw [ht]
        subst z1
        exact ⟨_, hw.trans (.edge ⟨hw.mem.2, z2, e, he, hab, rfl⟩)⟩
    · rcases List.mem_append.mp ht with ht | ht
      · exact List.mem_append_left _ (h.wt t ht)
      · exact List.mem_append_right _ ht
  · exact h
theorem dfW_ok {e : Wire α} (he : e ∈ E) (hh : here ∈ p.1) (h : DfOk E R s p) : DfOk E R s (dfW R here e p) :=
  dfS_ok he (.inr ⟨rfl, rfl⟩) (dfS_grow _ hh) (dfS_ok he (.inl ⟨rfl, rfl⟩) hh h)
theorem dfE_grow : ∀ {E' : List (Wire α)} {p : Df α}, ∀ t ∈ p.1, t ∈ (dfE R E' here p).1
  | [], _, _, ht => ht
  | e :: E', p, t, ht => dfE_grow (E' := E') (p := dfW R here e p) t (dfS_grow _ (dfS_grow _ ht))
theorem dfE_wt : ∀ {E' : List (Wire α)} {p : Df α}, ∀ t ∈ p.2, t ∈ (dfE R E' here p).2
  | [], _, _, ht => ht
  | e :: E', p, t, ht => dfE_wt (E' := E') (p := dfW R here e p) t (dfS_wt _ (dfS_wt _ ht))
theorem dfE_new : ∀ {E' : List (Wire α)} {p : Df α}, ∀ t ∈ (dfE R E' here p).1, t ∈ p.1 ∨ t ∈ (dfE R E' here p).2
  | [], _, _, ht => .inl ht
  | e :: E', p, t, ht => by
    rcases dfE_new (E' := E') (p := dfW R here e p) t ht with h | h
    · rcases dfS_new t h with h | h
      · rcases dfS_new t h with h | h
        · exact .inl h
        · exact .inr (dfE_wt (E' := E') (p := dfW R here e p) t (dfS_wt _ h))
      · exact .inr (dfE_wt (E' := E') (p := dfW R here e p) t h)
    · exact .inr h
theorem dfE_ok : ∀ {E' : List (Wire α)} {p : Df α}, (∀ e ∈ E', e ∈ E) → here ∈ p.1 → DfOk E R s p → DfOk E R s (dfE R E' here p)
  | [], _, _, _, h => h
  | e :: E', p, hs, hh, h => dfE_ok (E' := E') (p := dfW R here e p) (fun g hg => hs g (List.mem_cons_of_mem _ hg)) (dfS_grow _ (dfS_grow _ hh)) (dfW_ok (hs e List.mem_cons_self) hh h)
theorem dfE_hit : ∀ {E' : List (Wire α)} {p : Df α}, DfCl E' R (dfE R E' here p).1 here
  | [], _ => fun e he => by simp at he
  | e :: E', p => fun g hg o ho hab => by
    show o ∈ (dfE R E' here (dfW R here e p)).1
    rcases List.mem_cons.mp hg with rfl | hg
    · refine dfE_grow o ?_
      unfold dfW
      rcases hab with ⟨h1, h2⟩ | ⟨h1, h2⟩
      · rw [← h2] at ho ⊢
        exact dfS_grow _ (dfS_hit h1 ho)
      · rw [← h1] at ho ⊢
        exact dfS_hit h2 ho
    · exact dfE_hit (E' := E') (p := dfW R here e p) g hg o ho hab
/-- one popped tower -/
def DfInv (E : List (Wire α)) (R : List α) (s : α) (p : Df α) : Prop := DfOk E R s p ∧ ∀ t ∈ p.1, t ∉ p.2 → DfCl E R p.1 t
theorem df_start (hs : s ∈ R) : DfInv E R s ([s], [s]) :=
  ⟨⟨by simp, fun t ht => by simp at ht; rw [ht]; exact hs, fun t ht => by simp at ht; rw [ht]; exact ⟨0, .refl hs⟩, by simp, fun t ht => ht⟩, fun t h1 h2 => absurd h1 h2⟩
theorem df_turn {wt : List α} {fd : List α} (h : DfInv E R s (fd, wt ++ [here])) : DfInv E R s (dfE R E here (fd, wt)) := by
  obtain ⟨ok, cl⟩ := h
  have hh : here ∈ fd := ok.wt here (List.mem_append_right _ List.mem_cons_self)
  have ok' : DfOk E R s (fd, wt) := ⟨ok.nd, ok.sub, ok.way, ok.fst, fun t ht => ok.wt t (List.mem_append_left _ ht)⟩
  refine ⟨dfE_ok (fun _ h => h) hh ok', fun t ht hn => ?_⟩
  rcases dfE_new t ht with h1 | h1
  · by_cases e : t = here
    · rw [e]; exact dfE_hit
    · have hw : t ∉ wt ++ [here] := fun z => by
        rcases List.mem_append.mp z with z | z
        · exact hn (dfE_wt t z)
        · simp at z; exact e z
      intro g hg o ho hab
      exact dfE_grow o (cl t h1 hw g hg o ho hab)
  · exact absurd h1 hn
theorem df_done {fd : List α} (h : DfInv E R s (fd, [])) (t : α) : t ∈ fd ↔ ∃ w, Way E R s t w := by
  obtain ⟨ok, cl⟩ := h
  constructor
  · exact ok.way t
  · rintro ⟨w, hw⟩
    have key : ∀ {x y : α} {w : Int}, Way E R x y w → x ∈ fd → y ∈ fd := by
      intro x y w h
      induction h with
      | refl _ => exact fun h => h
      | edge h =>
        intro hx
        obtain ⟨h1, h2, e, he, hab, _⟩ := h
        exact cl _ hx (by simp) e he _ h2 hab
      | comp _ _ _ i1 i2 => exact fun h => i2 (i1 h)
    exact key hw ok.fst
/-- the number that falls -/
def dfM (R : List α) (p : Df α) : Nat := 2 * (R.length - p.1.length) + p.2.length
theorem dfS_M {e : Wire α} {x y : α} (he : e ∈ E) (hab : (e.a = x ∧ e.b = y) ∨ (e.a = y ∧ e.b = x)) (hh : here ∈ p.1) (h : DfOk E R s p) : dfM R (dfS R here x y p) ≤ dfM R p := by
  have h' := dfS_ok (here := here) he hab hh h
  have l := nodup_le _ R h'.nd h'.sub
  unfold dfS dfM at *
  split at l
  · rename_i z
    rw [if_pos z]
    simp only [List.length_append, List.length_cons, List.length_nil] at l ⊢
    omega
  · rename_i z
    rw [if_neg z]
    exact Nat.le_refl _
theorem dfE_M : ∀ {E' : List (Wire α)} {p : Df α}, (∀ e ∈ E', e ∈ E) → here ∈ p.1 → DfOk E R s p → dfM R (dfE R E' here p) ≤ dfM R p
  | [], _, _, _, _ => Nat.le_refl _
  | e :: E', p, hs, hh, h => by
    have he := hs e List.mem_cons_self
    have h1 := dfS_ok (here := here) he (.inl ⟨rfl, rfl⟩) hh h
    have m1 := dfS_M (here := here) he (.inl ⟨rfl, rfl⟩) hh h
    have m2 := dfS_M (here := here) he (.inr ⟨rfl, rfl⟩) (dfS_grow _ hh) h1
    have m3 := dfE_M (E' := E') (p := dfW R here e p) (fun g hg => hs g (List.mem_cons_of_mem _ hg)) (dfS_grow _ (dfS_grow _ hh)) (dfW_ok he hh h)
    exact Nat.le_trans m3 (Nat.le_trans m2 m1)
theorem df_falls {wt : List α} {fd : List α} (h : DfInv E R s (fd, wt ++ [here])) : dfM R (dfE R E here (fd, wt)) < dfM R (fd, wt ++ [here]) := by
  obtain ⟨ok, _⟩ := h
  have hh : here ∈ fd := ok.wt here (List.mem_append_right _ List.mem_cons_self)
  have ok' : DfOk E R s (fd, wt) := ⟨ok.nd, ok.sub, ok.way, ok.fst, fun t ht => ok.wt t (List.mem_append_left _ ht)⟩
  have m := dfE_M (here := here) (fun _ h => h) hh ok'
  refine Nat.lt_of_le_of_lt m ?_
  unfold dfM
  simp only [List.length_append, List.length_cons, List.length_nil]
  omega
end

/-! ### three lots -/
/-- three lots have all towers between them -/
def covers (T a b c : List α) : Prop := ∀ t ∈ T, t ∈ a ∨ t ∈ b ∨ t ∈ c
def Three (T : List α) (F : List (List α)) : Prop := 3 ≤ T.length ∧ ∃ a ∈ F, ∃ b ∈ F, ∃ c ∈ F, covers T a b c
/-- groups: none is empty, none shares a tower with another -/
structure Gr (gs : List (List α)) : Prop where
  full : ∀ g ∈ gs, g ≠ []
  nd : gs.flatten.Nodup
theorem Gr.perm {gs hs : List (List α)} (h : Gr gs) (p : hs.Perm gs) : Gr hs := ⟨fun g hg => h.full g (p.mem_iff.mp hg), p.flatten.nodup_iff.mpr h.nd⟩
theorem Gr.long {gs : List (List α)} (h : Gr gs) (h3 : gs.length < 3) (hl : 3 ≤ gs.flatten.length) : ∃ g ∈ gs, 1 < g.length := by
  match gs, h3, hl with
  | [], _, hl => simp at hl
  | [g], _, hl => simp at hl; exact ⟨g, by simp, by omega⟩
  | [g, k], _, hl =>
    simp at hl
    by_cases z : 1 < g.length
    · exact ⟨g, by simp, z⟩
    · exact ⟨k, by simp, by omega⟩
theorem Gr.notin {gs hs : List (List α)} {g : List α} (h : Gr (gs ++ g :: hs)) : g ∉ gs ∧ g ∉ hs := by
  have hg := h.full g (by simp)
  have nd := h.nd
  obtain ⟨t, ht⟩ := List.exists_mem_of_ne_nil g hg
  rw [List.flatten_append, List.flatten_cons] at nd
  obtain ⟨_, n2, n3⟩ := List.nodup_append.mp nd
  obtain ⟨_, _, n5⟩ := List.nodup_append.mp n2
  constructor
  · intro z
    exact n3 t (List.mem_flatten.mpr ⟨g, z, ht⟩) t (List.mem_append_left _ ht) rfl
  · intro z
    exact n5 t ht t (List.mem_flatten.mpr ⟨g, z, ht⟩) rfl
/-- a long group is split -/
def splitG (gs : List (List α)) (g : List α) : List (List α) := gs.filter (fun k => !decide (k = g)) ++ [g.take 1, g.drop 1]
theorem Gr.filter {gs hs : List (List α)} {g : List α} (h : Gr (gs ++ g :: hs)) : (gs ++ g :: hs).filter (fun k => !decide (k = g)) = gs ++ hs := by
  obtain ⟨h1, h2⟩ := h.notin
  have e : ∀ l : List (List α), g ∉ l → l.filter (fun k => !decide (k = g)) = l := fun l hl => List.filter_eq_self.mpr fun k hk => by
    have : k ≠ g := fun z => hl (z ▸ hk)
    simp [this]
  rw [List.filter_append, List.filter_cons_of_neg (by simp), e gs h1, e hs h2]
theorem Gr.split {gs : List (List α)} {g : List α} (h : Gr gs) (hm : g ∈ gs) (hl : 1 < g.length) : Gr (splitG gs g) ∧ (splitG gs g).length = gs.length + 1 ∧ (splitG gs g).flatten.Perm gs.flatten := by
  obtain ⟨l, r, rfl⟩ := List.append_of_mem hm
  have pf : (splitG (l ++ g :: r) g).flatten.Perm (l ++ g :: r).flatten := by
    unfold splitG
    rw [h.filter]
    have e : [g.take 1, g.drop 1].flatten = g := by
      rw [List.flatten_cons, List.flatten_cons, List.flatten_nil, List.append_nil]
      exact List.take_append_drop 1 g
    rw [List.flatten_append, e, List.flatten_append, List.flatten_append, List.flatten_cons, List.append_assoc]
    exact List.Perm.append_left _ List.perm_append_comm
  refine ⟨⟨fun k hk => ?_, pf.nodup_iff.mpr h.nd⟩, ?_, pf⟩
  · unfold splitG at hk
    rcases List.mem_append.mp hk with hk | hk
    · exact h.full k (List.mem_filter.mp hk).1
    · rcases List.mem_cons.mp hk with rfl | hk
      · intro z
        have := congrArg List.length z
        rw [List.length_take, List.length_nil] at this
        omega
      · rw [List.mem_singleton.mp hk]
        intro z
        have := congrArg List.length z
        rw [List.length_drop, List.length_nil] at this
        omega
  · unfold splitG
    rw [h.filter]
    simp
    omega
/-- from some groups to three, each within one that stood -/
theorem Gr.three : ∀ (n : Nat) {gs : List (List α)}, Gr gs → 3 - gs.length = n → gs.length ≤ 3 → 3 ≤ gs.flatten.length → ∃ a b c, Gr [a, b, c] ∧ [a, b, c].flatten.Perm gs.flatten ∧ ∀ k ∈ [a, b, c], ∃ g ∈ gs, ∀ t ∈ k, t ∈ g
  | 0, gs, h, hn, h3, _ => by
    match gs, hn, h3 with
    | [a, b, c], _, _ => exact ⟨a, b, c, h, List.Perm.refl _, fun k hk => ⟨k, hk, fun _ z => z⟩⟩
    | [], hn, _ => simp at hn
    | [_], hn, _ => simp at hn
    | [_, _], hn, _ => simp at hn
    | _ :: _ :: _ :: _ :: _, _, h3 => simp at h3
  | n + 1, gs, h, hn, h3, hl => by
    obtain ⟨g, hm, hg⟩ := h.long (by omega) hl
    obtain ⟨s1, s2, s3⟩ := h.split hm hg
    obtain ⟨a, b, c, k1, k2, k3⟩ := Gr.three n s1 (by omega) (by omega) (by rw [s3.length_eq]; exact hl)
    refine ⟨a, b, c, k1, k2.trans s3, fun k hk => ?_⟩
    obtain ⟨q, hq, sub⟩ := k3 k hk
    unfold splitG at hq
    rcases List.mem_append.mp hq with hq | hq
    · exact ⟨q, (List.mem_filter.mp hq).1, sub⟩
    · rcases List.mem_cons.mp hq with rfl | hq
      · exact ⟨g, hm, fun t ht => List.mem_of_mem_take (sub t ht)⟩
      · rw [List.mem_singleton.mp hq] at sub
        exact ⟨g, hm, fun t ht => List.mem_of_mem_drop (sub t ht)⟩

/-! ### all ways to put each tower into one of three -/
abbrev Row (α : Type) := List α × List α × List α
def rowT (t : α) (r : Row α) : List (Row α) := [(r.1 ++ [t], r.2.1, r.2.2), (r.1, r.2.1 ++ [t], r.2.2), (r.1, r.2.1, r.2.2 ++ [t])]
def rowsF (rows : List (Row α)) (t : α) : List (Row α) := rows.flatMap (rowT t)
def rowsOf (T : List α) : List (Row α) := T.foldl rowsF [([], [], [])]
theorem rows_mk (f : α → Nat) : ∀ (T : List α) (rows : List (Row α)) (A B C : List α), (∀ t ∈ T, f t < 3) → (A, B, C) ∈ rows →
    (A ++ T.filter (fun t => decide (f t = 0)), B ++ T.filter (fun t => decide (f t = 1)), C ++ T.filter (fun t => decide (f t = 2))) ∈ T.foldl rowsF rows
  | [], rows, A, B, C, _, h => by simpa using h
  | t :: T, rows, A, B, C, hf, h => by
    have h0 := hf t List.mem_cons_self
    have hr : ∀ r ∈ rowT t (A, B, C), r ∈ rowsF rows t := fun r hr => List.mem_flatMap.mpr ⟨_, h, hr⟩
    have ih := fun A B C h => rows_mk f T (rowsF rows t) A B C (fun u hu => hf u (List.mem_cons_of_mem _ hu)) h
    rw [List.foldl_cons]
    rcases (show f t = 0 ∨ f t = 1 ∨ f t = 2 by omega) with z | z | z
    · have := ih (A ++ [t]) B C (hr _ (by simp [rowT]))
      simpa [List.filter_cons, z] using this
    · have := ih A (B ++ [t]) C (hr _ (by simp [rowT]))
      simpa [List.filter_cons, z] using this
    · have := ih A B (C ++ [t]) (hr _ (by simp [rowT]))
      simpa [List.filter_cons, z] using this
structure RowOk (T : List α) (q r : Row α) : Prop where
  ex : ∃ a b c, r = (q.1 ++ a, q.2.1 ++ b, q.2.2 ++ c) ∧ a.length + b.length + c.length = T.length ∧ ∀ t ∈ T, t ∈ a ∨ t ∈ b ∨ t ∈ c
theorem rows_of : ∀ (T : List α) (rows : List (Row α)) (r : Row α), r ∈ T.foldl rowsF rows → ∃ q ∈ rows, RowOk T q r
  | [], rows, r, h => ⟨r, h, ⟨[], [], [], by simp, rfl, fun t ht => by simp at ht⟩⟩
  | t :: T, rows, r, h => by
    rw [List.foldl_cons] at h
    obtain ⟨q, hq, ⟨a, b, c, e, l, cov⟩⟩ := rows_of T (rowsF rows t) r h
    obtain ⟨p, hp, hpq⟩ := List.mem_flatMap.mp hq
    refine ⟨p, hp, ?_⟩
    simp only [rowT, List.mem_cons, List.not_mem_nil, or_false] at hpq
    rcases hpq with rfl | rfl | rfl
    · refine ⟨t :: a, b, c, by simp [e], by simp; omega, fun u hu => ?_⟩
      rcases List.mem_cons.mp hu with rfl | hu
      · simp
      · rcases cov u hu with z | z | z <;> simp [z]
    · refine ⟨a, t :: b, c, by simp [e], by simp; omega, fun u hu => ?_⟩
      rcases List.mem_cons.mp hu with rfl | hu
      · simp
      · rcases cov u hu with z | z | z <;> simp [z]
    · refine ⟨a, b, t :: c, by simp [e], by simp; omega, fun u hu => ?_⟩
      rcases List.mem_cons.mp hu with rfl | hu
      · simp
      · rcases cov u hu with z | z | z <;> simp [z]
/-- the law's rows that are left: none is empty, each is a feared lot -/
def RowGood (L : List (List α)) (r : Row α) : Prop := r.1 ≠ [] ∧ r.2.1 ≠ [] ∧ r.2.2 ≠ [] ∧ r.1 ∈ L ∧ r.2.1 ∈ L ∧ r.2.2 ∈ L
/-- each lot stands in the towers' own order -/
def FearsIn (T : List α) (F : List (List α)) : Prop := ∀ a ∈ F, a = T.filter fun t => decide (t ∈ a)
theorem three_iff {T : List α} {F L : List (List α)} (nd : T.Nodup) (hF : FearsIn T F) (hL : LotsOk F L) : (∃ r ∈ rowsOf T, RowGood L r) ↔ Three T F := by
  constructor
  · rintro ⟨r, hr, n1, n2, n3, m1, m2, m3⟩
    obtain ⟨q, hq, ⟨a, b, c, e, l, cov⟩⟩ := rows_of T _ r hr
    simp at hq
    subst hq
    simp at e
    subst e
    obtain ⟨a', ha, sa⟩ := (hL _).mp m1
    obtain ⟨b', hb, sb⟩ := (hL _).mp m2
    obtain ⟨c', hc, sc⟩ := (hL _).mp m3
    have l1 := List.length_pos_iff.mpr n1
    have l2 := List.length_pos_iff.mpr n2
    have l3 := List.length_pos_iff.mpr n3
    dsimp only at l1 l2 l3
    refine ⟨by omega, a', ha, b', hb, c', hc, fun t ht => ?_⟩
    rcases cov t ht with z | z | z
    · exact .inl (sa.subset z)
    · exact .inr (.inl (sb.subset z))
    · exact .inr (.inr (sc.subset z))
  · rintro ⟨h3, a, ha, b, hb, c, hc, cov⟩
    -- the first lot that has a tower
    have f3 : ∀ t ∈ T, (t ∈ a) ∨ (t ∉ a ∧ t ∈ b) ∨ (t ∉ a ∧ t ∉ b ∧ t ∈ c) := fun t ht => by
      by_cases z1 : t ∈ a
      · exact .inl z1
      · by_cases z2 : t ∈ b
        · exact .inr (.inl ⟨z1, z2⟩)
        · rcases cov t ht with z | z | z
          · exact absurd z z1
          · exact absurd z z2
          · exact .inr (.inr ⟨z1, z2, z⟩)
    let g0 := T.filter fun t => decide (t ∈ a)
    let g1 := T.filter fun t => decide (t ∉ a ∧ t ∈ b)
    let g2 := T.filter fun t => decide (t ∉ a ∧ t ∉ b ∧ t ∈ c)
    have dis : ∀ (p q : α → Bool), (∀ t, p t = true → q t = true → False) → ∀ x ∈ T.filter p, ∀ y ∈ T.filter q, x ≠ y := fun p q hpq x hx y hy e => by
      subst e
      exact hpq x (List.mem_filter.mp hx).2 (List.mem_filter.mp hy).2
    have ndall : ([g0, g1, g2] : List (List α)).flatten.Nodup := by
      show (g0 ++ (g1 ++ (g2 ++ []))).Nodup
      rw [List.append_nil]
      refine List.nodup_append.mpr ⟨nd.filter _, List.nodup_append.mpr ⟨nd.filter _, nd.filter _, dis _ _ fun t h1 h2 => ?_⟩, fun x hx y hy => ?_⟩
      · simp at h1 h2; exact h2.2.1 h1.2
      · rcases List.mem_append.mp hy with hy | hy
        · exact dis _ _ (fun t h1 h2 => by simp at h1 h2; exact h2.1 h1) x hx y hy
        · exact dis _ _ (fun t h1 h2 => by simp at h1 h2; exact h2.1 h1) x hx y hy
    have memall : ∀ t, t ∈ ([g0, g1, g2] : List (List α)).flatten ↔ t ∈ T := fun t => by
      show t ∈ g0 ++ (g1 ++ (g2 ++ [])) ↔ t ∈ T
      rw [List.append_nil, List.mem_append, List.mem_append]
      constructor
      · rintro (h | h | h) <;> exact (List.mem_filter.mp h).1
      · intro h
        rcases f3 t h with z | z | z
        · exact .inl (List.mem_filter.mpr ⟨h, decide_eq_true z⟩)
        · exact .inr (.inl (List.mem_filter.mpr ⟨h, decide_eq_true z⟩))
        · exact .inr (.inr (List.mem_filter.mpr ⟨h, decide_eq_true z⟩))
    let gs := ([g0, g1, g2] : List (List α)).filter fun g => !g.isEmpty
    have fl : gs.flatten = ([g0, g1, g2] : List (List α)).flatten := by
      have : ∀ l : List (List α), (l.filter fun g => !g.isEmpty).flatten = l.flatten := by
        intro l
        induction l with
        | nil => rfl
        | cons x l ih =>
          cases x with
          | nil => simpa using ih
          | cons y ys => simp [ih]
      exact this _
    have G : Gr gs := ⟨fun g hg => by
      have := (List.mem_filter.mp hg).2
      intro z
      rw [z] at this
      simp at this, by rw [fl]; exact ndall⟩
    have gl : gs.length ≤ 3 := List.length_filter_le _ _
    have len : gs.flatten.length = T.length := by
      rw [fl]
      have p : ([g0, g1, g2] : List (List α)).flatten.Perm T := (List.perm_ext_iff_of_nodup ndall nd).mpr memall
      exact p.length_eq
    obtain ⟨u, v, w, k1, k2, k3⟩ := Gr.three _ G rfl gl (by omega)
    have inL : ∀ k ∈ [u, v, w], ∃ l ∈ F, ∀ t ∈ k, t ∈ l := fun k hk => by
      obtain ⟨g, hg, sub⟩ := k3 k hk
      have hg' := (List.mem_filter.mp hg).1
      simp only [List.mem_cons, List.not_mem_nil, or_false] at hg'
      rcases hg' with rfl | rfl | rfl
      · exact ⟨a, ha, fun t ht => by have := (List.mem_filter.mp (sub t ht)).2; simpa using this⟩
      · exact ⟨b, hb, fun t ht => by have := (List.mem_filter.mp (sub t ht)).2; simp at this; exact this.2⟩
      · exact ⟨c, hc, fun t ht => by have := (List.mem_filter.mp (sub t ht)).2; simp at this; exact this.2.2⟩
    have memT : ∀ t, t ∈ u ∨ t ∈ v ∨ t ∈ w ↔ t ∈ T := fun t => by
      rw [← memall t, ← fl, ← k2.mem_iff]
      show _ ↔ t ∈ u ++ (v ++ (w ++ []))
      rw [List.append_nil, List.mem_append, List.mem_append]
    have ndk : (u ++ (v ++ (w ++ []))).Nodup := k1.nd
    rw [List.append_nil] at ndk
    obtain ⟨_, d2, d3⟩ := List.nodup_append.mp ndk
    obtain ⟨_, _, d6⟩ := List.nodup_append.mp d2
    let f : α → Nat := fun t => if t ∈ u then 0 else if t ∈ v then 1 else 2
    have hf : ∀ t ∈ T, f t < 3 := fun t _ => by
      show (if t ∈ u then 0 else if t ∈ v then 1 else 2) < 3
      split
      · decide
      · split <;> decide
    have row := rows_mk f T [([], [], [])] [] [] [] hf List.mem_cons_self
    simp only [List.nil_append] at row
    have f0 : ∀ t, f t = 0 ↔ t ∈ u := fun t => by
      show (if t ∈ u then 0 else if t ∈ v then 1 else 2) = 0 ↔ _
      by_cases z : t ∈ u
      · simp [z]
      · by_cases y : t ∈ v <;> simp [z, y]
    have f1 : ∀ t, f t = 1 ↔ t ∈ v := fun t => by
      show (if t ∈ u then 0 else if t ∈ v then 1 else 2) = 1 ↔ _
      by_cases z : t ∈ u
      · have : t ∉ v := fun y => d3 t z t (List.mem_append_left _ y) rfl
        simp [z, this]
      · by_cases y : t ∈ v <;> simp [z, y]
    have f2 : ∀ t ∈ T, f t = 2 ↔ t ∈ w := fun t ht => by
      show (if t ∈ u then 0 else if t ∈ v then 1 else 2) = 2 ↔ _
      by_cases z : t ∈ u
      · have : t ∉ w := fun y => d3 t z t (List.mem_append_right _ y) rfl
        simp [z, this]
      · by_cases y : t ∈ v
        · have : t ∉ w := fun x => d6 t y t x rfl
          simp [z, y, this]
        · have : t ∈ w := by
            rcases (memT t).mpr ht with x | x | x
            · exact absurd x z
            · exact absurd x y
            · exact x
          simp [z, y, this]
    have part : ∀ (k : List α) (p : α → Bool), k ∈ [u, v, w] → (∀ t ∈ T, p t = true ↔ t ∈ k) → T.filter p ≠ [] ∧ T.filter p ∈ L := fun k p hk hp => by
      constructor
      · obtain ⟨t, ht⟩ := List.exists_mem_of_ne_nil k (k1.full k hk)
        have hT : t ∈ T := (memT t).mp (by
          simp only [List.mem_cons, List.not_mem_nil, or_false] at hk
          rcases hk with rfl | rfl | rfl
          · exact .inl ht
          · exact .inr (.inl ht)
          · exact .inr (.inr ht))
        exact List.ne_nil_of_mem (List.mem_filter.mpr ⟨hT, (hp t hT).mpr ht⟩)
      · obtain ⟨l, hl, sub⟩ := inL k hk
        refine (hL _).mpr ⟨l, hl, ?_⟩
        have e : T.filter p = (T.filter fun t => decide (t ∈ l)).filter p := by
          rw [List.filter_filter]
          refine List.filter_congr fun t ht => ?_
          cases z : p t with
          | false => rfl
          | true => simp [sub t ((hp t ht).mp z)]
        rw [e, ← hF l hl]
        exact List.filter_sublist
    obtain ⟨p1, q1⟩ := part u (fun t => decide (f t = 0)) (by simp) fun t _ => by simpa using f0 t
    obtain ⟨p2, q2⟩ := part v (fun t => decide (f t = 1)) (by simp) fun t _ => by simpa using f1 t
    obtain ⟨p3, q3⟩ := part w (fun t => decide (f t = 2)) (by simp) fun t ht => by simpa using f2 t ht
    exact ⟨_, row, p1, p2, p3, q1, q2, q3⟩
end NhM

/-! Data that never changes, what evaluates to it, comprehensions over any walk. -/
namespace Nh
open PySem PySem.Spec PyProof.Rows L2 Evl

/-! ### data -/
mutual
/-- v is these data, by the tuples that H tracks -/
inductive Den (H : Hp) : V → PyData → Prop
  | non : Den H .non .none
  | bl (b : Bool) : Den H (.bl b) (.bool b)
  | int (i : Int) : Den H (.int i) (.int i)
  | str (x : Str) : Den H (.str x) (.str x)
  | tup {a : Addr} {xs : List V} {ds : List PyData} : H a = some (.tup xs) → DenAll H xs ds → Den H (.ref a) (.tuple ds)
inductive DenAll (H : Hp) : List V → List PyData → Prop
  | nil : DenAll H [] []
  | cons {v : V} {vs : List V} {d : PyData} {ds : List PyData} : Den H v d → DenAll H vs ds → DenAll H (v :: vs) (d :: ds)
end
/-- every tuple stays -/
def Tk (H H' : Hp) : Prop := ∀ a xs, H a = some (.tup xs) → H' a = some (.tup xs)
theorem Tk.refl (H : Hp) : Tk H H := fun _ _ h => h
theorem Tk.trans {H H1 H2 : Hp} (a : Tk H H1) (b : Tk H1 H2) : Tk H H2 := fun x xs h => b x xs (a x xs h)
theorem Tk.ex {H H' : Hp} (e : Ex H H') : Tk H H' := fun a xs h => e a _ h
/-- an object that is no tuple is written -/
theorem Tk.upd {H : Hp} {p : Addr} {o : HO} (h : ∀ xs, H p ≠ some (.tup xs)) : Tk H (upd H p o) := fun a xs e => by
  rw [upd_ne (fun z => h xs (by rw [← z]; exact e))]
  exact e
section
variable {H H' : Hp} {v : V} {vs ws : List V} {d : PyData} {ds es : List PyData}
mutual
theorem Den.tk (k : Tk H H') : ∀ (d : PyData) (v : V), Den H v d → Den H' v d
  | .none, _, h => by cases h; exact .non
  | .bool b, _, h => by cases h; exact .bl b
  | .int i, _, h => by cases h; exact .int i
  | .str x, _, h => by cases h; exact .str x
  | .list ds, _, h => by cases h
  | .tuple ds, _, h => by
    cases h with
    | tup ha hd => exact .tup (k _ _ ha) (DenAll.tk k ds _ hd)
  | .dict _, _, h => by cases h
theorem DenAll.tk (k : Tk H H') : ∀ (ds : List PyData) (vs : List V), DenAll H vs ds → DenAll H' vs ds
  | [], _, h => by cases h; exact .nil
  | d :: ds, _, h => by
    cases h with
    | cons h1 h2 => exact .cons (Den.tk k d _ h1) (DenAll.tk k ds _ h2)
end
theorem Den.ex (e : Ex H H') (h : Den H v d) : Den H' v d := Den.tk (Tk.ex e) d v h
theorem DenAll.ex (e : Ex H H') (h : DenAll H vs ds) : DenAll H' vs ds := DenAll.tk (Tk.ex e) ds vs h
mutual
theorem Den.dp {K : PySem.W.Frag} : ∀ (d : PyData) (v : V), Den H v d → Dp K H v d
  | .none, _, h => by cases h; exact .non
  | .bool b, _, h => by cases h; exact .bl b
  | .int i, _, h => by cases h; exact .int i
  | .str x, _, h => by cases h; exact .str x
  | .list ds, _, h => by cases h
  | .tuple ds, _, h => by
    cases h with
    | tup ha hd => exact .tup (Evl.st_of ha) (DenAll.dp ds _ hd)
  | .dict _, _, h => by cases h
theorem DenAll.dp {K : PySem.W.Frag} : ∀ (ds : List PyData) (vs : List V), DenAll H vs ds → DpAll K H vs ds
  | [], _, h => by cases h; exact .nil
  | d :: ds, _, h => by
    cases h with
    | cons h1 h2 => exact .cons (Den.dp d _ h1) (DenAll.dp ds _ h2)
end
theorem DenAll.len (h : DenAll H vs ds) : vs.length = ds.length := by
  induction ds generalizing vs with
  | nil => cases h; rfl
  | cons d ds ih =>
    cases h with
    | cons h1 h2 => rw [List.length_cons, List.length_cons, ih h2]
theorem DenAll.get (h : DenAll H vs ds) {i : Nat} {v : V} (e : vs[i]? = some v) : ∃ d, ds[i]? = some d ∧ Den H v d := by
  induction ds generalizing vs i with
  | nil => cases h; simp at e
  | cons d ds ih =>
    cases h with
    | cons h1 h2 =>
      cases i with
      | zero => simp at e; subst e; exact ⟨d, rfl, h1⟩
      | succ i => simpa using ih h2 (by simpa using e)
theorem DenAll.at (h : DenAll H vs ds) {i : Nat} {d : PyData} (e : ds[i]? = some d) : ∃ v, vs[i]? = some v ∧ Den H v d := by
  induction ds generalizing vs i with
  | nil => simp at e
  | cons d ds ih =>
    cases h with
    | cons h1 h2 =>
      cases i with
      | zero => simp at e; subst e; exact ⟨_, rfl, h1⟩
      | succ i => simpa using ih h2 (by simpa using e)
theorem DenAll.append (h : DenAll H vs ds) (h' : DenAll H ws es) : DenAll H (vs ++ ws) (ds ++ es) := by
  induction ds generalizing vs with
  | nil => cases h; exact h'
  | cons d ds ih =>
    cases h with
    | cons h1 h2 => exact .cons h1 (ih h2)
theorem DenAll.snoc (h : DenAll H vs ds) (h' : Den H v d) : DenAll H (vs ++ [v]) (ds ++ [d]) := h.append (.cons h' .nil)
theorem DenAll.take (n : Nat) (h : DenAll H vs ds) : DenAll H (vs.take n) (ds.take n) := by
  induction ds generalizing vs n with
  | nil => cases h; simp; exact .nil
  | cons d ds ih =>
    cases h with
    | cons h1 h2 =>
      cases n with
      | zero => exact .nil
      | succ n => exact .cons h1 (ih n h2)
theorem DenAll.drop (n : Nat) (h : DenAll H vs ds) : DenAll H (vs.drop n) (ds.drop n) := by
  induction ds generalizing vs n with
  | nil => cases h; simp; exact .nil
  | cons d ds ih =>
    cases h with
    | cons h1 h2 =>
      cases n with
      | zero => exact .cons h1 h2
      | succ n => exact ih n h2
theorem DenAll.strs {l : List Str} : DenAll H vs (l.map .str) ↔ vs = l.map V.str := by
  constructor
  · intro h
    induction l generalizing vs with
    | nil => cases h; rfl
    | cons x l ih =>
      cases h with
      | cons h1 h2 => cases h1; rw [ih h2]; rfl
  · rintro rfl
    induction l with
    | nil => exact .nil
    | cons x l ih => exact .cons (.str x) ih
theorem DenAll.ints {l : List Int} : DenAll H vs (l.map .int) ↔ vs = l.map V.int := by
  constructor
  · intro h
    induction l generalizing vs with
    | nil => cases h; rfl
    | cons x l ih =>
      cases h with
      | cons h1 h2 => cases h1; rw [ih h2]; rfl
  · rintro rfl
    induction l with
    | nil => exact .nil
    | cons x l ih => exact .cons (.int x) ih
theorem DenAll.bls {l : List Bool} : DenAll H vs (l.map .bool) ↔ vs = l.map V.bl := by
  constructor
  · intro h
    induction l generalizing vs with
    | nil => cases h; rfl
    | cons x l ih =>
      cases h with
      | cons h1 h2 => cases h1; rw [ih h2]; rfl
  · rintro rfl
    induction l with
    | nil => exact .nil
    | cons x l ih => exact .cons (.bl x) ih
/-- two items -/
theorem DenAll.two {a b : PyData} (h : DenAll H vs [a, b]) : ∃ u v, vs = [u, v] ∧ Den H u a ∧ Den H v b := by
  cases h with
  | cons h1 h =>
    cases h with
    | cons h2 h => cases h; exact ⟨_, _, rfl, h1, h2⟩
theorem Den.tuple (h : Den H v (.tuple ds)) : ∃ a xs, v = .ref a ∧ H a = some (.tup xs) ∧ DenAll H xs ds := by
  cases h with
  | tup h1 h2 => exact ⟨_, _, rfl, h1, h2⟩
end

/-! ### names, lots, wires, towns -/
abbrev dLot (l : List Str) : PyData := .tuple (l.map .str)
abbrev Wr := NhM.Wire Str
def dWire (e : NhM.Wire Str) : PyData := .tuple [.str e.a, .str e.b, .int e.lo, .int e.hi]
def dTown (T : List Str) (E : List (NhM.Wire Str)) : PyData := .tuple [dLot T, .tuple (E.map dWire)]
def dFears (F : List (List Str)) : PyData := .tuple (F.map fun l => dLot l)
theorem den_lot {H : Hp} {v : V} {l : List Str} : Den H v (dLot l) ↔ ∃ a, v = .ref a ∧ H a = some (.tup (l.map V.str)) := by
  constructor
  · intro h
    obtain ⟨a, xs, rfl, ha, hd⟩ := h.tuple
    rw [DenAll.strs.mp hd] at ha
    exact ⟨a, rfl, ha⟩
  · rintro ⟨a, rfl, ha⟩
    exact .tup ha (DenAll.strs.mpr rfl)

/-! ### evaluation with a word of the value -/
abbrev PP := V → Hp → Prop
def EvP (te : TE) (σ : L2.St) (H : Hp) (P : PP) : Prop := ∀ H1, Ex H H1 → ∀ Q : VK, (∀ v H2, Ex H1 H2 → P v H2 → Q v H2) → te σ H1 Q
/-- a new list of these data -/
def ND (H0 : Hp) (ds : List PyData) : PP := fun v H => ∃ p ys, v = .ref p ∧ H0 p = none ∧ H p = some (.lst ys) ∧ DenAll H ys ds
def Da (d : PyData) : PP := fun v H => Den H v d
def EvG (g : TG) (x : V) (σ : L2.St) (H : Hp) (σ2 : L2.St) : Prop := ∀ H1, Ex H H1 → ∀ k : L2.St → Hp → Prop, (∀ H2, Ex H1 H2 → k σ2 H2) → g x σ H1 k
section
variable {K : PySem.W.Frag} {σ : L2.St} {H H' : Hp} {te : TE} {P P' : PP} {x u v : V} {d : PyData} {ds : List PyData}
theorem EvP.mono (e : Ex H H') (h : EvP te σ H P) : EvP te σ H' P := fun H1 a Q q => h H1 (e.trans a) Q q
theorem EvP.imp (h : EvP te σ H P) (hp : ∀ v H1, Ex H H1 → P v H1 → P' v H1) : EvP te σ H P' := fun H1 a Q q => h H1 a Q fun v H2 e2 p => q v H2 e2 (hp v H2 (a.trans e2) p)
theorem EvP.of (h : Ev te σ H v) (hp : ∀ H1, Ex H H1 → P v H1) : EvP te σ H P := fun H1 a Q q => h H1 a Q fun H2 e2 => q v H2 e2 (hp H2 (a.trans e2))
theorem EvP.den (h : Ev te σ H v) (hd : Den H v d) : EvP te σ H (Da d) := EvP.of h fun H1 e => hd.ex e
theorem EvP.go (h : EvP te σ H P) {Q : VK} (q : ∀ v H2, Ex H H2 → P v H2 → Q v H2) : te σ H Q := h H (Ex.refl H) Q q
theorem ND.mono {H0 : Hp} (e : Ex H H') (h : ND H0 ds v H) : ND H0 ds v H' := by
  obtain ⟨p, ys, rfl, h1, h2, h3⟩ := h
  exact ⟨p, ys, rfl, h1, e _ _ h2, h3.ex e⟩
theorem evG_name {i : Nat} : EvG (gName i) x σ H (σ.set i (some x)) := fun H1 _ _ q => q H1 (Ex.refl H1)
theorem evG_pair {a : Addr} {i j : Nat} (h : H a = some (.tup [u, v])) : EvG (gTup K 2 (gCons (gName i) (gCons (gName j) gNil))) (.ref a) σ H ((σ.set i (some u)).set j (some v)) := fun H1 e _ q =>
  ⟨a, [u, v], rfl, Evl.st_of (e a _ h), rfl, u, [v], rfl, v, [], rfl, rfl, q H1 (Ex.refl H1)⟩
end

/-! ### what is walked -/
/-- wi walks the list as; what it gives at a's turn has the property Tx a -/
def Src {α : Type} (wi : TI) (σ : L2.St) (H : Hp) (as : List α) (Tx : α → V → Hp → Prop) : Prop := ∀ H1, Ex H H1 → ∀ R : It → Hp → Prop,
  (∀ J H2 (G : Hp → Prop) (Y : Nat → Hp → V → Hp → Prop), Ex H1 H2 → Walk J as.length G Y → (∀ H3, Ex H2 H3 → G H3) → (∀ i x H3 H4, Ex H2 H3 → Y i H3 x H4 → i < as.length → Ex H3 H4 ∧ ∃ a, as[i]? = some a ∧ Tx a x H4) → R J H2) → wi σ H1 R
section
variable {α : Type} {K : PySem.W.Frag} {σ : L2.St} {H H' : Hp} {te : TE} {wi : TI} {as : List α} {Tx : α → V → Hp → Prop}
theorem Src.mono (e : Ex H H') (h : Src wi σ H as Tx) : Src wi σ H' as Tx := fun H1 a R q => h H1 (e.trans a) R q
theorem src_tup {a : Addr} {xs : List V} {ds : List PyData} (h : Ev te σ H (.ref a)) (ha : H a = some (.tup xs)) (hd : DenAll H xs ds) : Src (iTup K te) σ H ds (fun d x H' => Den H' x d) := fun H1 e R q =>
  h H1 e _ fun H2 e2 => ⟨a, rfl, ⟨xs, Evl.st_of ((e.trans e2) a _ ha)⟩, by
    have hl := hd.len
    refine q _ H2 (fun H => SqT K H a xs) (YAt xs) e2 (hl ▸ walk_tup) (fun H3 e3 => Evl.st_of (((e.trans e2).trans e3) a _ ha)) fun i x H3 H4 e3 y _ => ?_
    obtain ⟨rfl, y⟩ := y
    obtain ⟨d, h1, h2⟩ := hd.get y
    exact ⟨Ex.refl _, d, h1, h2.ex ((e.trans e2).trans e3)⟩⟩
/-- over a new list -/
theorem src_new {ds : List PyData} {H0 : Hp} (h : EvP te σ H (ND H0 ds)) : Src (iList K te) σ H ds (fun d x H' => Den H' x d) := fun H1 e R q =>
  h H1 e _ fun v H2 e2 hn => by
    obtain ⟨p, ys, rfl, _, hp, hd⟩ := hn
    refine ⟨p, rfl, ⟨ys, Evl.sq_of hp⟩, ?_⟩
    have hl := hd.len
    refine q _ H2 (fun H => SqL K H p ys) (YAt ys) e2 (hl ▸ walk_list) (fun H3 e3 => Evl.sq_of (e3 p _ hp)) fun i x H3 H4 e3 y _ => ?_
    obtain ⟨rfl, y⟩ := y
    obtain ⟨d, h1, h2⟩ := hd.get y
    exact ⟨Ex.refl _, d, h1, h2.ex e3⟩
/-- over a list that stands -/
theorem src_list {a : Addr} {xs : List V} {ds : List PyData} (h : Ev te σ H (.ref a)) (ha : H a = some (.lst xs)) (hd : DenAll H xs ds) : Src (iList K te) σ H ds (fun d x H' => Den H' x d) := fun H1 e R q =>
  h H1 e _ fun H2 e2 => ⟨a, rfl, ⟨xs, Evl.sq_of ((e.trans e2) a _ ha)⟩, by
    have hl := hd.len
    refine q _ H2 (fun H => SqL K H a xs) (YAt xs) e2 (hl ▸ walk_list) (fun H3 e3 => Evl.sq_of (((e.trans e2).trans e3) a _ ha)) fun i x H3 H4 e3 y _ => ?_
    obtain ⟨rfl, y⟩ := y
    obtain ⟨d, h1, h2⟩ := hd.get y
    exact ⟨Ex.refl _, d, h1, h2.ex ((e.trans e2).trans e3)⟩⟩
theorem src_str {z : Str} (h : Ev te σ H (.str z)) : Src (iStr te) σ H z.cps.toList (fun c x _ => x = .str ⟨#[c]⟩) := fun H1 e R q =>
  h H1 e _ fun H2 e2 => ⟨z, rfl, by
    refine q _ H2 (fun _ => True) _ e2 (by rw [Array.length_toList]; exact walk_str) (fun _ _ => True.intro) fun i x H3 H4 e3 y _ => ?_
    obtain ⟨rfl, c, hc, rfl⟩ := y
    exact ⟨Ex.refl _, c, by rw [Array.getElem?_toList]; exact hc, rfl⟩⟩
theorem src_range {ta : TA} {n : Nat} (h : EvA ta σ H [.int (n : Int)]) (hn : n ≤ 100000) : Src (iRng1 ta) σ H (List.range n) (fun i x _ => x = .int (i : Int)) := fun H1 e R q =>
  h H1 e _ fun H2 e2 => ⟨(n : Int), rfl, by omega, by omega, by
    have e0 : ((n : Int)).toNat = n := by omega
    rw [e0]
    refine q _ H2 (fun _ => True) _ e2 (by rw [List.length_range]; exact walk_range) (fun _ _ => True.intro) fun i x H3 H4 e3 y hi => ?_
    obtain ⟨rfl, rfl⟩ := y
    rw [List.length_range] at hi
    refine ⟨Ex.refl _, i, by simp [hi], ?_⟩
    show V.int (0 + (i : Int)) = V.int (i : Int)
    rw [Int.zero_add]⟩
/-- the same items, said otherwise -/
theorem Src.map {β : Type} {f : β → α} {bs : List β} {Tb : β → V → Hp → Prop} (h : Src wi σ H (bs.map f) Tx) (ht : ∀ b ∈ bs, ∀ x H', Tx (f b) x H' → Tb b x H') : Src wi σ H bs Tb := fun H1 e R q =>
  h H1 e R fun J H2 G Y e2 w hG hY => q J H2 G Y e2 (by rw [List.length_map] at w; exact w) hG fun i x H3 H4 e3 y hi => by
    obtain ⟨e4, a, ha, t⟩ := hY i x H3 H4 e3 y (by rw [List.length_map]; exact hi)
    rw [List.getElem?_map] at ha
    cases hb : bs[i]? with
    | none => rw [hb] at ha; cases ha
    | some b =>
      rw [hb] at ha
      have eb : f b = a := Option.some.inj ha
      subst eb
      exact ⟨e4, b, rfl, ht b (List.mem_of_getElem? hb) x H4 t⟩
end

theorem src_lot {K : PySem.W.Frag} {σ : L2.St} {H : Hp} {te : TE} {a : Addr} {l : List Str} (h : Ev te σ H (.ref a)) (ha : H a = some (.tup (l.map V.str))) : Src (iTup K te) σ H l (fun s x _ => x = .str s) :=
  (src_tup h ha (DenAll.strs.mpr rfl)).map (f := PyData.str) fun b _ x H' t => by cases t; rfl

/-! ### comprehensions -/
theorem take_filter {α : Type} {as : List α} {i : Nat} {a : α} (p : α → Bool) (h : as[i]? = some a) : (as.take (i + 1)).filter p = (as.take i).filter p ++ (if p a = true then [a] else []) := by
  rw [List.take_add_one, h, List.filter_append]
  congr 1
  show List.filter p [a] = _
  rw [List.filter_cons]
  rfl
theorem lcL {α : Type} {wi : TI} {g : TG} {t : TT} {te : TE} {vs : List Nat} {σ : L2.St} {H : Hp} {as : List α} {Tx : α → V → Hp → Prop} (hs : Src wi σ H as Tx) (hn : as.length ≤ 40000) (keep : α → Bool) (f : α → PyData)
    (turn : ∀ a ∈ as, ∀ x H', Ex H H' → Tx a x H' → ∃ σ2, EvG g x (wipe σ vs) H' σ2 ∧ wipe σ2 vs = wipe σ vs ∧ EvT t σ2 H' (keep a) ∧ (keep a = true → EvP te σ2 H' (Da (f a)))) :
    EvP (tLc wi g t te vs) σ H (ND H ((as.filter keep).map f)) := by
  intro H1 e Q q
  refine hs H1 e _ fun J H2 G Y e2 w hG hY => fun D hD => ?_
  refine lc_it w (fun i H' => Ex H2 H' ∧ ∃ ys, H' D = some (.lst ys) ∧ DenAll H' ys (((as.take i).filter keep).map f)) ⟨Ex.new hD, [], upd_same, ?_⟩ (fun i H' _ p => hG H' p.1) ?_ ?_
  · rw [List.take_zero]; exact .nil
  · rintro i x Ha Hb hi ⟨p1, ys, p2, p3⟩ y
    obtain ⟨e3, a, ha, ht⟩ := hY i x Ha Hb p1 y hi
    have eb : Ex H2 Hb := p1.trans e3
    obtain ⟨σ2, hg, hw, htt, hte⟩ := turn a (List.mem_of_getElem? ha) x Hb ((e.trans e2).trans eb) ht
    refine hg Hb (Ex.refl Hb) _ fun H4 e4 => ⟨hw, htt H4 e4 _ fun H5 e5 => ?_⟩
    have e45 := e4.trans e5
    cases hk : keep a with
    | false =>
      refine (if_neg Bool.false_ne_true).mpr ?_
      refine ⟨eb.trans e45, ys, e45 D _ (e3 D _ p2), ?_⟩
      rw [take_filter keep ha, hk, if_neg Bool.false_ne_true, List.append_nil]
      exact p3.ex (e3.trans e45)
    | true =>
      refine (if_pos rfl).mpr ?_
      refine hte hk H5 e45 _ fun v H6 e6 hv => ?_
      have e36 := e3.trans (e45.trans e6)
      have hlen : ys.length ≤ i := by
        rw [p3.len, List.length_map]
        exact Nat.le_trans (List.length_filter_le _ _) (by rw [List.length_take]; exact Nat.min_le_left _ _)
      refine ⟨ys, e36 D _ p2, Evl.sz_lt (by omega), Ex.mut (p1.trans e36) hD, ys ++ [v], upd_same, ?_⟩
      have tk : Tk H6 (upd H6 D (.lst (ys ++ [v]))) := Tk.upd fun xs z => by rw [e36 D _ p2] at z; cases z
      rw [take_filter keep ha, hk, if_pos rfl, List.map_append]
      exact ((p3.ex e36).snoc hv).tk tk _ _
  · rintro H' ⟨p1, ys, p2, p3⟩
    rw [List.take_length] at p3
    refine q _ H' (e2.trans p1) ⟨D, ys, rfl, fresh_back (e.trans e2) hD, p2, p3⟩
/-- without a test -/
theorem lcY {α : Type} {wi : TI} {g : TG} {te : TE} {vs : List Nat} {σ : L2.St} {H : Hp} {as : List α} {Tx : α → V → Hp → Prop} (hs : Src wi σ H as Tx) (hn : as.length ≤ 40000) (f : α → PyData)
    (turn : ∀ a ∈ as, ∀ x H', Ex H H' → Tx a x H' → ∃ σ2, EvG g x (wipe σ vs) H' σ2 ∧ wipe σ2 vs = wipe σ vs ∧ EvP te σ2 H' (Da (f a))) :
    EvP (tLc wi g tYes te vs) σ H (ND H (as.map f)) := by
  have h := lcL (t := tYes) hs hn (fun _ => true) f fun a ha x H' e ht => by
    obtain ⟨σ2, h1, h2, h3⟩ := turn a ha x H' e ht
    exact ⟨σ2, h1, h2, fun H1 _ _ q => q H1 (Ex.refl H1), fun _ => h3⟩
  rw [List.filter_eq_self.mpr (fun _ _ => rfl)] at h
  exact h

/-! ### expressions -/
/-- arguments that are these data -/
def EvAD (ta : TA) (σ : L2.St) (H : Hp) (ds : List PyData) : Prop := ∀ H1, Ex H H1 → ∀ Q : List V → Hp → Prop, (∀ vs H2, Ex H1 H2 → DenAll H2 vs ds → Q vs H2) → ta σ H1 Q
/-- a call on values, with a word of the answer -/
def RP (r : List V → Hp → VK → Prop) (vs : List V) (H : Hp) (P : PP) : Prop := ∀ Q : VK, (∀ v H2, Ex H H2 → P v H2 → Q v H2) → r vs H Q
section
variable {K : PySem.W.Frag} {σ : L2.St} {H H' : Hp} {te ta tb : TE} {tr : TA} {t : TT} {P P' : PP} {x u v : V} {d : PyData} {ds : List PyData} {r : List V → Hp → VK → Prop}
theorem EvAD.mono (e : Ex H H') (h : EvAD tr σ H ds) : EvAD tr σ H' ds := fun H1 a Q q => h H1 (e.trans a) Q q
theorem ead_nil : EvAD tNil σ H [] := fun H1 _ _ q => q [] H1 (Ex.refl H1) .nil
theorem ead_cons (h : EvP te σ H (Da d)) (hr : EvAD tr σ H ds) : EvAD (tCons te tr) σ H (d :: ds) := fun H1 e _ q =>
  h H1 e _ fun _ H2 e2 p => hr H2 (e.trans e2) _ fun _ H3 e3 ps => q _ H3 (e2.trans e3) (.cons (Den.ex e3 p) ps)
theorem evP_tup (h : EvAD tr σ H ds) (hl : ds.length ≤ 100000) : EvP (tTup tr) σ H (Da (.tuple ds)) := fun H1 e _ q =>
  h H1 e _ fun vs H2 e2 p => ⟨Evl.sz_of (by rw [p.len]; exact hl), fun a ha => q _ _ (e2.trans (Ex.new ha)) (.tup upd_same (p.ex (Ex.new ha)))⟩
theorem evP_lst (h : EvAD tr σ H ds) (hl : ds.length ≤ 100000) : EvP (tLst tr) σ H (ND H ds) := fun H1 e _ q =>
  h H1 e _ fun vs H2 e2 p => ⟨Evl.sz_of (by rw [p.len]; exact hl), fun a ha => q _ _ (e2.trans (Ex.new ha)) ⟨a, vs, rfl, fresh_back (e.trans e2) ha, upd_same, p.ex (Ex.new ha)⟩⟩
theorem evP_cb1 (h : EvP te σ H P) (hr : ∀ v H1, Ex H H1 → P v H1 → RP r [v] H1 P') : EvP (tCB r (tCons te tNil)) σ H P' := fun H1 e _ q =>
  h H1 e _ fun v H2 e2 p => hr v H2 (e.trans e2) p _ fun v' H3 e3 p' => q v' H3 (e2.trans e3) p'
theorem evP_if {b : Bool} (h : EvT t σ H b) (h1 : b = true → EvP ta σ H P) (h2 : b = false → EvP tb σ H P) : EvP (tIf t ta tb) σ H P := fun H1 e Q q => h H1 e _ fun H2 e2 => by
  cases b with
  | true =>
    show ta σ H2 Q
    exact h1 rfl H2 (e.trans e2) Q fun v H3 e3 => q v H3 (e2.trans e3)
  | false =>
    show tb σ H2 Q
    exact h2 rfl H2 (e.trans e2) Q fun v H3 e3 => q v H3 (e2.trans e3)
/-- tuple(list) of a new list -/
theorem evP_tupleOf {H0 : Hp} (h : EvP te σ H (ND H0 ds)) :
    EvP (tCB (fun xs H Q => ∃ p ys, xs = [.ref p] ∧ ((SqL K H p ys ∧ ∀ l, H l = none → Q (.ref l) (upd H l (.tup ys))) ∨ (SqT K H p ys ∧ Q (.ref p) H))) (tCons te tNil)) σ H (Da (.tuple ds)) :=
  evP_cb1 h fun v H1 e hn Q q => by
    obtain ⟨p, ys, rfl, _, hp, hd⟩ := hn
    exact ⟨p, ys, rfl, .inl ⟨Evl.sq_of hp, fun c hc => q (.ref c) _ (Ex.new hc) (.tup upd_same (hd.ex (Ex.new hc)))⟩⟩
/-- all([..]) of a new list of truths -/
theorem ev_all {H0 : Hp} {bs : List Bool} (h : EvP te σ H (ND H0 (bs.map .bool))) : Ev (tCB (rAll K) (tCons te tNil)) σ H (.bl (bs.all id)) := fun H1 e _ q =>
  h H1 e _ fun v H2 e2 hn => by
    obtain ⟨p, ys, rfl, _, hp, hd⟩ := hn
    rw [DenAll.bls.mp hd] at hp
    exact ⟨p, bs, rfl, Evl.sq_of hp, q H2 e2⟩
/-- t[i] of a tuple, i written -/
theorem evP_ixT {ti : TE} {i : Nat} (h : Ev te σ H v) (hd : Den H v (.tuple ds)) (hi : Ev ti σ H (.int (i : Int))) (hg : ds[i]? = some d) : EvP (tOp (rIxT K) te ti) σ H (Da d) := fun H1 e _ q =>
  h H1 e _ fun H2 e2 => hi H2 (e.trans e2) _ fun H3 e3 => by
    obtain ⟨a, xs, rfl, ha, hx⟩ := hd.tuple
    obtain ⟨v, hv, hdv⟩ := hx.at hg
    have ee := (e.trans e2).trans e3
    refine ⟨a, xs, (i : Int), v, rfl, rfl, Evl.st_of (ee a _ ha), ?_, q v H3 (e2.trans e3) (hdv.ex ee)⟩
    exact atI_nat hv
theorem ev_ixT {ti : TE} {a : Addr} {xs : List V} {i : Nat} (h : Ev te σ H (.ref a)) (ha : H a = some (.tup xs)) (hi : Ev ti σ H (.int (i : Int))) (hg : xs[i]? = some v) : Ev (tOp (rIxT K) te ti) σ H v :=
  ev_op h hi (rv_ixT (Evl.st_of ha) (atI_nat hg))
end

/-! ### statements -/
section
variable {K : PySem.W.Frag} {σ : L2.St} {H H' : Hp} {te : TE} {P : PP} {D : Ends} {tz tb : TS} {i : Nat}
theorem s_retP (h : EvP te σ H P) (k : ∀ v H1, Ex H H1 → P v H1 → D.rt v H1) : tRet te D σ H := h H (Ex.refl H) _ k
theorem s_asgP (h : EvP te σ H P) (k : ∀ v H1, Ex H H1 → P v H1 → D.nx (σ.set i (some v)) H1) : tAsg te (gName i) D σ H := h H (Ex.refl H) _ k
theorem q_asgP (h : EvP te σ H P) (k : ∀ v H1, Ex H H1 → P v H1 → tz D (σ.set i (some v)) H1) : tSeq (tAsg te (gName i)) tz D σ H := s_asgP (D := { D with nx := tz D }) h k
theorem s_dropP (h : EvP te σ H P) (k : ∀ v H1, Ex H H1 → P v H1 → D.nx σ H1) : tDrop te D σ H := h H (Ex.refl H) _ k
theorem q_dropP (h : EvP te σ H P) (k : ∀ v H1, Ex H H1 → P v H1 → tz D σ H1) : tSeq (tDrop te) tz D σ H := s_dropP (D := { D with nx := tz D }) h k
/-- a loop that changes nothing that stood ahead of it -/
theorem s_forS {α : Type} {wi : TI} {g : TG} {as : List α} {Tx : α → V → Hp → Prop} (hs : Src wi σ H as Tx) (Pv : Hp → Nat → L2.St → Hp → Prop) (h0 : ∀ H1, Ex H H1 → Pv H1 0 σ H1) (hx : ∀ H2 i σ' H', Ex H H2 → Pv H2 i σ' H' → Ex H2 H')
    (turn : ∀ H2, Ex H H2 → ∀ i a, as[i]? = some a → ∀ x σ' H0 H', Pv H2 i σ' H0 → Ex H0 H' → Tx a x H' → g x σ' H' fun σ2 H3 => tb { D with nx := Pv H2 (i + 1), ct := Pv H2 (i + 1), bk := D.nx } σ2 H3) (hd : ∀ H2, Ex H H2 → ∀ σ' H', Pv H2 as.length σ' H' → D.nx σ' H') : tFor wi g tb D σ H :=
  hs H (Ex.refl H) _ fun J H2 G Y e2 w hG hY => for_it w (Pv H2) (h0 H2 e2) (fun i σ' H' _ p => hG H' (hx H2 i σ' H' e2 p)) (fun i x σ' Ha Hb hi p y => by
    obtain ⟨e3, a, ha, t⟩ := hY i x Ha Hb (hx H2 i σ' Ha e2 p) y hi
    exact turn H2 e2 i a ha x σ' Ha Hb p e3 t) (hd H2 e2)
end
/-- what is walked stands as long as the tuples stand -/
def SrcT {α : Type} (wi : TI) (σ : L2.St) (H : Hp) (as : List α) (Tx : α → V → Hp → Prop) : Prop := ∀ H1, Ex H H1 → ∀ R : It → Hp → Prop,
  (∀ J H2 (G : Hp → Prop) (Y : Nat → Hp → V → Hp → Prop), Ex H1 H2 → Walk J as.length G Y → (∀ H3, Tk H2 H3 → G H3) → (∀ i x H3 H4, Tk H2 H3 → Y i H3 x H4 → i < as.length → Ex H3 H4 ∧ ∃ a, as[i]? = some a ∧ Tx a x H4) → R J H2) → wi σ H1 R
section
variable {α : Type} {K : PySem.W.Frag} {σ : L2.St} {H H' : Hp} {te : TE} {wi : TI} {as : List α} {Tx : α → V → Hp → Prop} {D : Ends} {tb : TS}
theorem SrcT.src (h : SrcT wi σ H as Tx) : Src wi σ H as Tx := fun H1 e R q => h H1 e R fun J H2 G Y e2 w hG hY => q J H2 G Y e2 w (fun H3 e3 => hG H3 (Tk.ex e3)) fun i x H3 H4 e3 => hY i x H3 H4 (Tk.ex e3)
theorem srcT_tup {a : Addr} {xs : List V} {ds : List PyData} (h : Ev te σ H (.ref a)) (ha : H a = some (.tup xs)) (hd : DenAll H xs ds) : SrcT (iTup K te) σ H ds (fun d x H' => Den H' x d) := fun H1 e R q =>
  h H1 e _ fun H2 e2 => ⟨a, rfl, ⟨xs, Evl.st_of ((e.trans e2) a _ ha)⟩, by
    have hl := hd.len
    have k0 : Tk H H2 := Tk.ex (e.trans e2)
    refine q _ H2 (fun H => SqT K H a xs) (YAt xs) e2 (hl ▸ walk_tup) (fun H3 e3 => Evl.st_of ((k0.trans e3) a _ ha)) fun i x H3 H4 e3 y _ => ?_
    obtain ⟨rfl, y⟩ := y
    obtain ⟨d, h1, h2⟩ := hd.get y
    exact ⟨Ex.refl _, d, h1, h2.tk (k0.trans e3) _ _⟩⟩
theorem srcT_range {ta : TA} {n : Nat} (h : EvA ta σ H [.int (n : Int)]) (hn : n ≤ 100000) : SrcT (iRng1 ta) σ H (List.range n) (fun i x _ => x = .int (i : Int)) := fun H1 e R q =>
  h H1 e _ fun H2 e2 => ⟨(n : Int), rfl, by omega, by omega, by
    have e0 : ((n : Int)).toNat = n := by omega
    rw [e0]
    refine q _ H2 (fun _ => True) _ e2 (by rw [List.length_range]; exact walk_range) (fun _ _ => True.intro) fun i x H3 H4 e3 y hi => ?_
    obtain ⟨rfl, rfl⟩ := y
    rw [List.length_range] at hi
    refine ⟨Ex.refl _, i, by simp [hi], ?_⟩
    show V.int (0 + (i : Int)) = V.int (i : Int)
    rw [Int.zero_add]⟩
theorem SrcT.map {β : Type} {f : β → α} {bs : List β} {Tb : β → V → Hp → Prop} (h : SrcT wi σ H (bs.map f) Tx) (ht : ∀ b ∈ bs, ∀ x H', Tx (f b) x H' → Tb b x H') : SrcT wi σ H bs Tb := fun H1 e R q =>
  h H1 e R fun J H2 G Y e2 w hG hY => q J H2 G Y e2 (by rw [List.length_map] at w; exact w) hG fun i x H3 H4 e3 y hi => by
    obtain ⟨e4, a, ha, t⟩ := hY i x H3 H4 e3 y (by rw [List.length_map]; exact hi)
    rw [List.getElem?_map] at ha
    cases hb : bs[i]? with
    | none => rw [hb] at ha; cases ha
    | some b =>
      rw [hb] at ha
      have eb : f b = a := Option.some.inj ha
      subst eb
      exact ⟨e4, b, rfl, ht b (List.mem_of_getElem? hb) x H4 t⟩
/-- a loop that may change what is no tuple -/
theorem s_forT {g : TG} (hs : SrcT wi σ H as Tx) (Pv : Hp → Nat → L2.St → Hp → Prop) (h0 : ∀ H1, Ex H H1 → Pv H1 0 σ H1) (hx : ∀ H2 i σ' H', Ex H H2 → Pv H2 i σ' H' → Tk H2 H')
    (turn : ∀ H2, Ex H H2 → ∀ i a, as[i]? = some a → ∀ x σ' H0 H', Pv H2 i σ' H0 → Ex H0 H' → Tx a x H' → g x σ' H' fun σ2 H3 => tb { D with nx := Pv H2 (i + 1), ct := Pv H2 (i + 1), bk := D.nx } σ2 H3) (hd : ∀ H2, Ex H H2 → ∀ σ' H', Pv H2 as.length σ' H' → D.nx σ' H') : tFor wi g tb D σ H :=
  hs H (Ex.refl H) _ fun J H2 G Y e2 w hG hY => for_it w (Pv H2) (h0 H2 e2) (fun i σ' H' _ p => hG H' (hx H2 i σ' H' e2 p)) (fun i x σ' Ha Hb hi p y => by
    obtain ⟨e3, a, ha, t⟩ := hY i x Ha Hb (hx H2 i σ' Ha e2 p) y hi
    exact turn H2 e2 i a ha x σ' Ha Hb p e3 t) (hd H2 e2)
end

/-! ### promises -/
/-- a def whose arguments are data: it changes nothing that stands and hands back R i -/
def spD {ι : Type} (args : ι → List PyData) (ok : ι → Prop) (R : ι → Hp → PP) : Sp := fun vs H Q _ => ∃ i, DenAll H vs (args i) ∧ ok i ∧ ∀ v H', Ex H H' → R i H v H' → Q v H'
section
variable {ι : Type} {args : ι → List PyData} {ok : ι → Prop} {σ : L2.St} {H : Hp} {ta : TA} {E : XK}
theorem evP_callD {r : ι → PyData} (i : ι) (h : EvAD ta σ H (args i)) (hk : ok i) : EvP (tCall (spD args ok fun i _ => Da (r i)) [] E ta) σ H (Da (r i)) := fun H1 e Q q =>
  h H1 e _ fun vs H2 e2 p => ⟨i, by rw [List.append_nil]; exact p, hk, fun v H3 e3 hv => q v H3 (e2.trans e3) hv⟩
theorem ev_callB {b : ι → Bool} (i : ι) (h : EvAD ta σ H (args i)) (hk : ok i) : Ev (tCall (spD args ok fun i _ v _ => v = .bl (b i)) [] E ta) σ H (.bl (b i)) := fun H1 e Q q =>
  h H1 e _ fun vs H2 e2 p => ⟨i, by rw [List.append_nil]; exact p, hk, fun v H3 e3 hv => by rw [hv]; exact q H3 (e2.trans e3)⟩
theorem evP_callN {r : ι → List PyData} (i : ι) (h : EvAD ta σ H (args i)) (hk : ok i) : EvP (tCall (spD args ok fun i H => ND H (r i)) [] E ta) σ H (ND H (r i)) := fun H1 e Q q =>
  h H1 e _ fun vs H2 e2 p => ⟨i, by rw [List.append_nil]; exact p, hk, fun v H3 e3 hv => q v H3 (e2.trans e3) (by
    obtain ⟨p, ys, rfl, h1, h2, h3⟩ := hv
    exact ⟨p, ys, rfl, fresh_back (e.trans e2) h1, h2, h3⟩)⟩
theorem evP_callR {R : ι → Hp → PP} {P : PP} (i : ι) (h : EvAD ta σ H (args i)) (hk : ok i) (hR : ∀ H1 v H2, Ex H H1 → Ex H1 H2 → R i H1 v H2 → P v H2) : EvP (tCall (spD args ok R) [] E ta) σ H P := fun H1 e Q q =>
  h H1 e _ fun vs H2 e2 p => ⟨i, by rw [List.append_nil]; exact p, hk, fun v H3 e3 hv => q v H3 (e2.trans e3) (hR H2 v H3 (e.trans e2) e3 hv)⟩
end

/-! ### the text -/
def topS (i : Nat) : Stmt := PySem.Challenge.pw_nearhours_k49_whole_plays.main.body.getD i (.Pass ⟨0, 0, 0, 0⟩)
/-- a def as it stands behind the top -/
structure Df (K : PySem.W.Frag) (mg : Str → Option Value) (x : Str) (st : Stmt) (ps : List Str) (f : Addr) (fd : FuncData) : Prop where
  F : Fun K x x st f fd
  g : mg x = some (.ref f)
  b : Binds K fd ps []
  kp : PySem.W.keepIn K (.ref f) = true
theorem Df.cal {P : Program} {w : World} {K : PySem.W.Frag} {mg : Str → Option Value} {base : Heap} {x : Str} {st : Stmt} {ps : List Str} {f : Addr} {fd : FuncData} {k : Nat} {sp : Sp} (D : Df K mg x st ps f fd) (h : FnOk P w K mg base CX0 k f fd ps sp) : C8.Cal P w K mg base k x sp [] := ⟨⟨f, fd, ps, [], h, D.g, D.kp, D.b, .nil⟩⟩
/-- the built-ins' names are as they were -/
structure Bn (mg : Str → Option Value) : Prop where
  isi : mg "isinstance" = none
  len : mg "len" = none
  all : mg "all" = none
  zip : mg "zip" = none
  range : mg "range" = none
  enumerate : mg "enumerate" = none
  sorted : mg "sorted" = none
  min : mg "min" = none
  max : mg "max" = none
  sum : mg "sum" = none
  repr : mg "repr" = none
  tuple : mg "tuple" = none
  str : mg "str" = none
  int : mg "int" = none
  bool : mg "bool" = none
  dict : mg "dict" = none
  set : mg "set" = none
  list : mg "list" = none

theorem inV_str (x : Str) : ∀ l : List Str, inV (.str x) (l.map V.str) = decide (x ∈ l)
  | [] => rfl
  | y :: l => by
    have ih := inV_str x l
    unfold inV at ih ⊢
    rw [List.map_cons, List.any_cons, ih]
    have e : eqV (.str y) (.str x) = decide (y = x) := rfl
    rw [e]
    by_cases h : y = x
    · simp [h]
    · have h' : ¬ x = y := fun z => h z.symm
      simp [h, h']
theorem flat_strs (l : List Str) : (l.map V.str).all flatV = true := by
  rw [List.all_eq_true]
  intro v hv
  obtain ⟨x, _, rfl⟩ := List.mem_map.mp hv
  rfl
end Nh

/-! enumerate over a tuple, zip of a tuple and a list, as things that a for walks. -/
namespace Nh
open PySem PySem.Spec PyProof.Rows L2 Evl

theorem isTup_tuple {h : Heap} {a : Addr} {items : Array Value} (p : IsTup h a items) : h.IsTuple a items := p
/-- enumerate(t): its first cells -/
theorem meets_enumT (t : Addr) (items : Array Value) :
    Meets (Builtin.«enumerate.__new__» ⟨[.type "enumerate", .ref t], []⟩) (fun _ R s => s.heap.IsTuple t items ∧
      R (.ok (.ret (.ref (s.heap.push { cls := .type "tuple_iterator", data := .fields #[.ref t, .int 0 0] }).objs.size)))
        { s with heap := (s.heap.push { cls := .type "tuple_iterator", data := .fields #[.ref t, .int 0 0] }).push { cls := .type "enumerate", data := .fields #[.none, .bool false, .ref s.heap.objs.size, rawInt 0, .none, .none] } }) :=
  .of_wp fun prog w A R s h => by
    obtain ⟨hp, g, d, tk, os⟩ := s
    obtain ⟨hT, h⟩ := h
    have hsub := sub_enumerate
    have q1 : ∀ {A' : Around} {E : Value → Shared → Prop} {Q : Value → Shared → Prop}, Q (.ref hp.objs.size) ⟨hp.push { cls := .type "tuple_iterator", data := .fields #[.ref t, .int 0 0] }, g, d, tk, os⟩ → wpAny (model prog w) A' (pyIter (.ref t)) Q E ⟨hp, g, d, tk, os⟩ :=
      fun q => (begins_tuple t items).iter prog w _ _ ⟨hp, g, d, tk, os⟩ _ hT q
    wp_walk using q1
    refine wpAny_stack_any fun st => wpAny_pure ?_
    split
    · rename_i c _ _ _ _ _
      cases (c == Value.type "enumerate")
      · wp_walk using q1
        exact ⟨_, rfl, h⟩
      · wp_walk using q1
        exact ⟨_, rfl, h⟩
    · wp_walk using q1
      exact ⟨_, rfl, h⟩
section
variable {prog : Program} {w : World} {A : Around} {E : Value → Shared → Prop} {s : Shared}
theorem call_enumT {t : Addr} {items : Array Value} {Q : Value → Shared → Prop} (hT : s.heap.IsTuple t items)
    (h : ∀ h', IsEnum h' (s.heap.objs.size + 1) s.heap.objs.size 0 .none → h'.IsTupleIter s.heap.objs.size t 0 → (∀ b o, s.heap.get? b = some o → h'.get? b = some o) → Q (.ref (s.heap.objs.size + 1)) { s with heap := h' }) :
    wpAny (model prog w) A (call (.type "enumerate") [.ref t]) Q E s := by
  refine callType_new F.called_enumerate (by decide) (F.typeCall_enumerate_1 _) (F.newCall_enumerate_1 _) (fun obj => F.args_object_init_2 obj _) F.entry_enumerate_new (meets_enumT t items) ⟨hT, ?_⟩
  generalize ho : ({ cls := .type "tuple_iterator", data := .fields #[.ref t, .int 0 0] } : Obj) = oi
  have z : (s.heap.push oi).objs.size = s.heap.objs.size + 1 := Heap.size_push ..
  have e : ((s.heap.push oi).push { cls := .type "enumerate", data := .fields #[.none, .bool false, .ref s.heap.objs.size, rawInt 0, .none, .none] }).get? (s.heap.objs.size + 1) = some { cls := .type "enumerate", data := .fields #[.none, .bool false, .ref s.heap.objs.size, rawInt 0, .none, .none] } := by
    have q := Heap.get?_push_size (s.heap.push oi) (o := { cls := .type "enumerate", data := .fields #[.none, .bool false, .ref s.heap.objs.size, rawInt 0, .none, .none] }) rfl
    rw [z] at q
    exact q
  show _ ∧ _
  rw [z]
  refine ⟨⟨_, e, rfl⟩, h _ e ⟨oi, Heap.get?_push_of_some _ (Heap.get?_push_size _ (by rw [← ho]; rfl)), by rw [← ho], by rw [← ho]; rfl⟩ fun b o x => Heap.get?_push_of_some _ (Heap.get?_push_of_some _ x)⟩
end
theorem tup_ne_iter {h : Heap} {a it : Addr} {items : Array Value} {t : Addr} {i : Nat} (p : h.IsTuple a items) (q : h.IsTupleIter it t i) : a ≠ it := fun e => by
  obtain ⟨o, ho, hc, _⟩ := p
  obtain ⟨o2, ho2, hc2, _⟩ := q
  rw [e, ho2] at ho
  cases ho
  rw [hc2] at hc
  exact absurd hc (by decide)
theorem tup_ne_enum {h : Heap} {a e it : Addr} {items : Array Value} {i : Int} {old : Value} (p : h.IsTuple a items) (q : IsEnum h e it i old) : e ≠ a := fun z => by
  obtain ⟨o, ho, hc, _⟩ := p
  rw [← z, q] at ho
  cases ho
  exact absurd hc (by show ¬ Value.type "enumerate" = Value.type "tuple"; decide)
/-- the tuple at a, each item in a new pair with its place -/
def IteT (K : PySem.W.Frag) (a : Addr) : It :=
  ⟨fun i H => ∃ (xs : List V) (x : V), SqT K H a xs ∧ xs[i]? = some x, fun i H v H' => ∃ T x, v = .ref T ∧ H T = none ∧ H' = upd H T (.tup [.int (i : Nat), x]) ∧ ∀ xs, SqT K H a xs → xs[i]? = some x, fun i H => ∃ xs : List V, SqT K H a xs ∧ xs.length = i⟩
theorem turn_enumT {P : Program} {w : World} {K : PySem.W.Frag} {elts : List Expr} {kk : Nat} {tpos : Pos} (a e it : Addr) :
    Turn P w K (.Tuple elts kk tpos) (IteT K a) [e, it] e (fun i h => (∃ old, IsEnum h e it ((i : Nat) : Int) old) ∧ h.IsTupleIter it a i ∧ e ≠ it) where
  mem := List.mem_cons_self
  obj := by
    rintro i h ⟨⟨old, he⟩, ⟨o, ho, hc, hd⟩, _⟩ b hb
    simp only [List.mem_cons, List.not_mem_nil, or_false] at hb
    rcases hb with rfl | rfl
    · exact ⟨_, he, fun v q => nomatch q⟩
    · exact ⟨o, ho, fun v q => by rw [hd] at q; cases q⟩
  keep := by
    rintro i h h' ⟨⟨old, he⟩, ⟨o, ho, r⟩, hne⟩ k
    exact ⟨⟨old, k e (by simp) _ he⟩, ⟨o, k it (by simp) _ ho, r⟩, hne⟩
  item := by
    intro X hP hw hK hc i pins s σ H E I hf st hg
    subst hP hw hK
    obtain ⟨⟨old, he⟩, hit, hne⟩ := st
    obtain ⟨xs, x, hq, hx⟩ := hg
    obtain ⟨its, rv, p, _⟩ := I.tuple hq
    obtain ⟨u, hu, ru⟩ := rv.get hx
    have pt : s.heap.IsTuple a its.toArray := p
    have nea : e ≠ a := tup_ne_enum pt he
    have nai : a ≠ it := tup_ne_iter pt hit
    have hil : i < its.toArray.size := by
      have := (List.getElem?_eq_some_iff.mp hu).1
      simpa using this
    have hel : e < s.heap.objs.size := Heap.lt_size he
    have hit0 : it < s.heap.objs.size := by obtain ⟨_, q, _⟩ := hit; exact Heap.lt_size q
    refine wpAny_pyNext_enum_itemD (Draws.tuple (prog := X.prog) (w := X.w) (A := X.A.in1) (I.ok.hd hc) it a nai its.toArray) he ⟨hit, pt⟩ hil hne (by simp [hne, nea]) fun y h' tk hy ho' hst hT hsz hk => ?_
    have ey : y = u := by
      have h1 : its.toArray[i]? = some u := by simpa using hu
      rw [h1] at hy
      exact (Option.some.inj hy).symm
    subst ey
    refine ⟨_, rfl, wpAny_letOwnedTupleGo_enum (s := { s with heap := h', toks := tk + 1 }) ho' fun h2 he2 sb => ?_⟩
    have hT2 : h2.get? s.heap.objs.size = some { cls := .type "tuple", data := .seq #[.int i tk, y] } := (sb.2 _ (Nat.ne_of_gt hel)).trans hT
    have new : ObjOk X.prog X.w (upd H s.heap.objs.size (.tup [.int (i : Nat), x])) h2 s.heap.objs.size (.tup [.int (i : Nat), x]) :=
      ⟨by show 2 ≤ sizeLine; decide, [.int i tk, y], .cons ⟨_, rfl⟩ (.cons ru .nil), ⟨_, hT2, rfl, _, rfl⟩⟩
    have I1 : Inv X pins σ (upd H s.heap.objs.size (.tup [.int (i : Nat), x])) { s with heap := h2, toks := tk + 1 } :=
      I.turnedNew (ch := [e, it]) (fun b ob hb q => (sb.2 b (fun z => hb (by simp [z]))).trans (hk b ob (fun z => hb (by simp [z])) (fun z => hb (by simp [z])) q)) hf (Nat.le_refl _) new
    obtain ⟨⟨oi, hoi, ri⟩, _⟩ := hst
    refine ⟨.ref s.heap.objs.size, _, I1, rfl, ⟨_, x, rfl, I.hok.fresh (Nat.le_refl _), rfl, fun ys hys => by rw [I.tuple_inj hys hq]; exact hx⟩, ⟨⟨y, ?_⟩, ⟨oi, (sb.2 it (Ne.symm hne)).trans hoi, ri⟩, hne⟩, fun b hb => ?_⟩
    · have e1 : ((i + 1 : Nat) : Int) = (i : Int) + 1 := by omega
      rw [e1]
      exact he2
    · have hb' : b < s.heap.objs.size := by
        simp only [List.mem_cons, List.not_mem_nil, or_false] at hb
        rcases hb with rfl | rfl
        · exact hel
        · exact hit0
      rw [upd_ne (Nat.ne_of_lt hb')]
      exact (hf b hb).1
  done := by
    intro X hP hw hK hc i pins s σ H E I hf st hg
    subst hP hw hK
    obtain ⟨⟨old, he⟩, hit, hne⟩ := st
    obtain ⟨xs, hq, hx⟩ := hg
    obtain ⟨its, rv, p, _⟩ := I.tuple hq
    have pt : s.heap.IsTuple a its.toArray := p
    have nai : a ≠ it := tup_ne_iter pt hit
    have hl := rv.length
    have ei : i = its.toArray.size := by simp; omega
    rw [ei] at hit
    refine wpAny_pyNext_enum_endD (Draws.tuple (prog := X.prog) (w := X.w) (A := X.A.in1) (I.ok.hd hc) it a nai its.toArray) he ⟨hit, pt⟩ fun h' eb => ⟨rfl, ?_⟩
    obtain ⟨f0, f1, f2, f3, f4, f5⟩ := hf it (by simp)
    exact I.turned (t' := s.toks) (fun b o hb q => eb b o hb q) f0 f1 f3 f4 f5
  self := fun A i s Q E st h => by
    obtain ⟨⟨_, he⟩, _⟩ := st
    exact wpAny_pyIter_enum he h
def iEnumT (K : PySem.W.Frag) (ta : TA) : TI := fun σ H R => ta σ H fun vs H1 => ∃ a xs, vs = [.ref a] ∧ SqT K H1 a xs ∧ R (IteT K a) H1
theorem pi_enumT {X : Cx} {e : Expr} {ta : TA} {p pos tpos : Pos} {elts : List Expr} {kk : Nat} (hg : Gl X "enumerate") (hm : X.mg "enumerate" = none) (ha : PA X [e] ta) (hs : starEach [e] X.env = [(false, eval e X.env)] := by rfl) :
    PI X (.Tuple elts kk tpos) (.Call (.Name "enumerate" p) [e] [] pos) (iEnumT X.K ta) := by
  refine ⟨fun pins s σ H R I h => Call_ (ld_blt I hg hm boot_enumerate (PyProof.Rows.callWith_type1 (thn (ha.run pos pins s σ H _ I h) fun us s1 hq1 => ?_) hs rfl))⟩
  obtain ⟨vs, H1, I1, r1, a, xs, rfl, hq, q⟩ := hq1
  obtain ⟨u, rfl, ru⟩ := vals1 r1
  cases ru
  obtain ⟨its, rv, p', _⟩ := I1.tuple hq
  refine call_enumT (isTup_tuple p') fun h' he hit hk => wpAny_pyIter_enum he ?_
  refine ⟨s1.heap.objs.size + 1, [s1.heap.objs.size + 1, s1.heap.objs.size], _, _, H1, rfl, I1.kept (t' := s1.toks) hk, turn_enumT a (s1.heap.objs.size + 1) s1.heap.objs.size, ⟨⟨.none, he⟩, hit, Nat.succ_ne_self _⟩, fun b hb => ?_, q⟩
  have hle : s1.heap.objs.size ≤ b := by
    simp only [List.mem_cons, List.not_mem_nil, or_false] at hb
    rcases hb with rfl | rfl
    · exact Nat.le_add_right _ 1
    · exact Nat.le_refl _
  exact I1.fpOk hle (I1.hok.fresh hle)
theorem walk_enumT {K : PySem.W.Frag} {a : Addr} {xs : List V} : Walk (IteT K a) xs.length (fun H => SqT K H a xs) (YPair (fun i => some (.int (i : Nat))) (fun i => xs[i]?)) := by
  refine ⟨fun i _ hi q => ⟨xs, xs[i], q, by simp [hi]⟩, fun _ q => ⟨xs, q, rfl⟩, fun i H v H' _ q y => ?_⟩
  obtain ⟨T, x, h1, h2, h3, h4⟩ := y
  exact ⟨T, .int (i : Nat), x, h1, h2, h3, rfl, h4 xs q⟩

/-! ### zip(tuple, list) -/
def ItzM (K : PySem.W.Frag) (a b : Addr) : It :=
  ⟨fun i H => ∃ (xs ys : List V) (x y : V), SqT K H a xs ∧ SqL K H b ys ∧ xs[i]? = some x ∧ ys[i]? = some y,
    fun i H v H' => ∃ T x y, v = .ref T ∧ H T = none ∧ H' = upd H T (.tup [x, y]) ∧ (∀ xs, SqT K H a xs → xs[i]? = some x) ∧ ∀ ys, SqL K H b ys → ys[i]? = some y,
    fun i H => ∃ xs ys : List V, SqT K H a xs ∧ SqL K H b ys ∧ i ≤ xs.length ∧ i ≤ ys.length ∧ (i = xs.length ∨ i = ys.length)⟩
structure ZApart (z TI TO i1 i2 : Addr) : Prop where
  a1 : TI ≠ z
  a2 : TO ≠ z
  a3 : TI ≠ TO
  a4 : TI ≠ i1
  a5 : TI ≠ i2
  a6 : z ≠ i1
  a7 : z ≠ i2
  a8 : TO ≠ i1
  a9 : TO ≠ i2
  a10 : i1 ≠ i2
theorem zapart_at (n : Nat) : ZApart (n + 4) (n + 2) (n + 3) n (n + 1) :=
  ⟨Nat.ne_of_lt (show n + 2 < n + 4 by omega), Nat.ne_of_lt (show n + 3 < n + 4 by omega), Nat.ne_of_lt (show n + 2 < n + 3 by omega), Nat.ne_of_gt (show n < n + 2 by omega), Nat.ne_of_gt (show n + 1 < n + 2 by omega), Nat.ne_of_gt (show n < n + 4 by omega),
    Nat.ne_of_gt (show n + 1 < n + 4 by omega), Nat.ne_of_gt (show n < n + 3 by omega), Nat.ne_of_gt (show n + 1 < n + 3 by omega), Nat.ne_of_lt (show n < n + 1 by omega)⟩
theorem zsep {z TI TO i1 i2 a b : Addr} (D : ZApart z TI TO i1 i2) (za : z ≠ a) (zb : z ≠ b) (ta : TO ≠ a) (tb : TO ≠ b) (i1b : i1 ≠ b) (i2a : i2 ≠ a) : ZipSep2 z TI TO i1 i2 [i1, a] [i2, b] where
  TIz := D.a1
  TOz := D.a2
  TITO := D.a3
  TIi1 := D.a4
  mem1 := by simp
  zf1 := by simp [D.a6, za]
  Tf1 := by simp [D.a8, ta]
  TIi2 := D.a5
  mem2 := by simp
  zf2 := by simp [D.a7, zb]
  Tf2 := by simp [D.a9, tb]
  sep1_2 := by simp [D.a10, i1b]
  sep2_1 := by simp [Ne.symm D.a10, i2a]
theorem turn_zipM {P : Program} {w : World} {K : PySem.W.Frag} {elts : List Expr} {kk : Nat} {tpos : Pos} {a b z TI TO i1 i2 : Addr} (D : ZApart z TI TO i1 i2) (hab : TO ≠ a ∧ TO ≠ b) :
    Turn P w K (.Tuple elts kk tpos) (ItzM K a b) [z, TI, TO, i1, i2] z (fun i h => IsZip h z TI TO .none ∧ IsTupOf2 h TI (.ref i1) (.ref i2) ∧ (∃ x y, IsTupOf2 h TO x y) ∧ h.IsTupleIter i1 a i ∧ h.IsListIter i2 b i) where
  mem := List.mem_cons_self
  obj := by
    rintro i h ⟨hz, hTI, ⟨x, y, hTO⟩, ⟨o1, e1, _, d1⟩, ⟨o2, e2, _, d2⟩⟩ c hc
    simp only [List.mem_cons, List.not_mem_nil, or_false] at hc
    rcases hc with rfl | rfl | rfl | rfl | rfl
    · exact ⟨_, hz, fun v q => nomatch q⟩
    · exact ⟨_, hTI, fun v q => nomatch q⟩
    · exact ⟨_, hTO, fun v q => nomatch q⟩
    · exact ⟨o1, e1, fun v q => by rw [d1] at q; cases q⟩
    · exact ⟨o2, e2, fun v q => by rw [d2] at q; cases q⟩
  keep := by
    rintro i h h' ⟨hz, hTI, ⟨x, y, hTO⟩, ⟨o1, e1, r1⟩, ⟨o2, e2, r2⟩⟩ k
    exact ⟨k z (by simp) _ hz, k TI (by simp) _ hTI, ⟨x, y, k TO (by simp) _ hTO⟩, ⟨o1, k i1 (by simp) _ e1, r1⟩, ⟨o2, k i2 (by simp) _ e2, r2⟩⟩
  item := by
    intro X hP hw hK hc i pins s σ H E I hf st hg
    subst hP hw hK
    obtain ⟨hz, hTI, ⟨x0, y0, hTO⟩, h1, h2⟩ := st
    obtain ⟨xs, ys, x, y, hqx, hqy, hx, hy⟩ := hg
    obtain ⟨its, rv, p, _⟩ := I.tuple hqx
    obtain ⟨its2, rv2, p2, _⟩ := I.list hqy
    obtain ⟨u, hu, ru⟩ := rv.get hx
    obtain ⟨u2, hu2, ru2⟩ := rv2.get hy
    have pt : s.heap.IsTuple a its.toArray := p
    have pl : s.heap.IsList b its2.toArray := p2.isList
    have n1 : a ≠ i1 := tup_ne_iter pt h1
    obtain ⟨ob, hob, hcb, _⟩ := id pl
    obtain ⟨oa, hoa, hca, _⟩ := id pt
    obtain ⟨oi1, hi1, hc1, _⟩ := id h1
    obtain ⟨oi2, hi2, hc2, _⟩ := id h2
    have ne : ∀ {c d : Addr} {o o' : Obj}, s.heap.get? c = some o → s.heap.get? d = some o' → o.cls ≠ o'.cls → c ≠ d := fun e1 e2 k z => by
      subst z
      rw [e1] at e2
      cases e2
      exact k rfl
    have n2 : b ≠ i2 := ne hob hi2 (by rw [hcb, hc2]; decide)
    have za : z ≠ a := ne hz hoa (by rw [hca]; show Value.type "zip" ≠ Value.type "tuple"; decide)
    have zb : z ≠ b := ne hz hob (by rw [hcb]; show Value.type "zip" ≠ Value.type "list"; decide)
    have i1b : i1 ≠ b := ne hi1 hob (by rw [hc1, hcb]; decide)
    have i2a : i2 ≠ a := ne hi2 hoa (by rw [hc2, hca]; decide)
    have l1 : i < its.toArray.size := by simpa using (List.getElem?_eq_some_iff.mp hu).1
    have l2 : i < its2.toArray.size := by simpa using (List.getElem?_eq_some_iff.mp hu2).1
    have hzl : z < s.heap.objs.size := Heap.lt_size hz
    refine wpAny_pyNext_zipD2_item (zsep D za zb hab.1 hab.2 i1b i2a) (Draws.tuple (prog := X.prog) (w := X.w) (A := X.A.in1) (I.ok.hd hc) i1 a n1 its.toArray) (Draws.list (prog := X.prog) (w := X.w) (A := X.A.in1) (I.ok.hd hc) i2 b n2 its2.toArray)
      hz hTI hTO ⟨h1, pt⟩ ⟨h2, pl⟩ l1 l2 fun v1 v2 h' tk e1 e2 z' TO' s1' s2' hT hsz hk => ?_
    have ev1 : v1 = u := by
      have q : its.toArray[i]? = some u := by simpa using hu
      rw [q] at e1; exact (Option.some.inj e1).symm
    have ev2 : v2 = u2 := by
      have q : its2.toArray[i]? = some u2 := by simpa using hu2
      rw [q] at e2; exact (Option.some.inj e2).symm
    subst ev1 ev2
    refine ⟨_, rfl, wpAny_letOwnedTupleGo_zip (s := { s with heap := h', toks := tk }) z' fun h3 z3 sb => ?_⟩
    have hT2 : h3.get? s.heap.objs.size = some { cls := .type "tuple", data := .seq #[v1, v2] } := (sb.2 _ (Nat.ne_of_gt hzl)).trans hT
    have new : ObjOk X.prog X.w (upd H s.heap.objs.size (.tup [x, y])) h3 s.heap.objs.size (.tup [x, y]) :=
      ⟨by show 2 ≤ sizeLine; decide, [v1, v2], .cons ru (.cons ru2 .nil), ⟨_, hT2, rfl, _, rfl⟩⟩
    have I1 : Inv X pins σ (upd H s.heap.objs.size (.tup [x, y])) { s with heap := h3, toks := tk } :=
      I.turnedNew (ch := [z, TI, TO, i1, i2]) (fun c o hb q => (sb.2 c (fun q' => hb (by simp [q']))).trans (hk c o (fun q' => hb (by simp [q'])) (fun q' => hb (by simp [q'])) (fun q' => hb (by simp [q'])) (fun q' => hb (by simp [q'])) q)) hf (Nat.le_refl _) new
    obtain ⟨⟨oj1, hj1, rj1⟩, _⟩ := s1'
    obtain ⟨⟨oj2, hj2, rj2⟩, _⟩ := s2'
    refine ⟨.ref s.heap.objs.size, _, I1, rfl, ⟨_, x, y, rfl, I.hok.fresh (Nat.le_refl _), rfl, fun l hl => by rw [I.tuple_inj hl hqx]; exact hx, fun l hl => by rw [I.list_inj hl hqy]; exact hy⟩, ⟨z3, ?_, ⟨v1, v2, ?_⟩, ?_, ?_⟩, fun c hcm => ?_⟩
    · exact (sb.2 _ D.a1).trans (hk _ _ D.a1 D.a3 D.a4 D.a5 hTI)
    · exact (sb.2 _ D.a2).trans TO'
    · exact ⟨oj1, (sb.2 _ (Ne.symm D.a6)).trans hj1, rj1⟩
    · exact ⟨oj2, (sb.2 _ (Ne.symm D.a7)).trans hj2, rj2⟩
    · have hlt : c < s.heap.objs.size := by
        simp only [List.mem_cons, List.not_mem_nil, or_false] at hcm
        rcases hcm with rfl | rfl | rfl | rfl | rfl
        · exact hzl
        · exact Heap.lt_size hTI
        · exact Heap.lt_size hTO
        · exact Heap.lt_size hi1
        · exact Heap.lt_size hi2
      rw [upd_ne (Nat.ne_of_lt hlt)]
      exact (hf c hcm).1
  done := by
    intro X hP hw hK hc i pins s σ H E I hf st hg
    subst hP hw hK
    obtain ⟨hz, hTI, ⟨x0, y0, hTO⟩, h1, h2⟩ := st
    obtain ⟨xs, ys, hqx, hqy, hle1, hle2, hend⟩ := hg
    obtain ⟨its, rv, p, _⟩ := I.tuple hqx
    obtain ⟨its2, rv2, p2, _⟩ := I.list hqy
    have lv1 := rv.length
    have lv2 := rv2.length
    have pt : s.heap.IsTuple a its.toArray := p
    have pl : s.heap.IsList b its2.toArray := p2.isList
    have n1 : a ≠ i1 := tup_ne_iter pt h1
    obtain ⟨ob, hob, hcb, _⟩ := id pl
    obtain ⟨oa, hoa, hca, _⟩ := id pt
    obtain ⟨oi1, hi1, hc1, _⟩ := id h1
    obtain ⟨oi2, hi2, hc2, _⟩ := id h2
    have ne : ∀ {c d : Addr} {o o' : Obj}, s.heap.get? c = some o → s.heap.get? d = some o' → o.cls ≠ o'.cls → c ≠ d := fun e1 e2 k z => by
      subst z
      rw [e1] at e2
      cases e2
      exact k rfl
    have n2 : b ≠ i2 := ne hob hi2 (by rw [hcb, hc2]; decide)
    have za : z ≠ a := ne hz hoa (by rw [hca]; show Value.type "zip" ≠ Value.type "tuple"; decide)
    have zb : z ≠ b := ne hz hob (by rw [hcb]; show Value.type "zip" ≠ Value.type "list"; decide)
    have i1b : i1 ≠ b := ne hi1 hob (by rw [hc1, hcb]; decide)
    have i2a : i2 ≠ a := ne hi2 hoa (by rw [hc2, hca]; decide)
    refine wpAny_pyNext_zipD2_end (zsep D za zb hab.1 hab.2 i1b i2a) (Draws.tuple (prog := X.prog) (w := X.w) (A := X.A.in1) (I.ok.hd hc) i1 a n1 its.toArray) (Draws.list (prog := X.prog) (w := X.w) (A := X.A.in1) (I.ok.hd hc) i2 b n2 its2.toArray)
      hz hTI hTO ⟨h1, pt⟩ ⟨h2, pl⟩ (by simp; omega) (by simp; omega) (by simp; omega) fun h' tk hk => ⟨rfl, I.turnedL (ch := [z, TI, TO, i1, i2]) (fun c o hb q =>
      hk c o (fun q' => hb (by simp [q'])) (fun q' => hb (by simp [q'])) (fun q' => hb (by simp [q'])) (fun q' => hb (by simp [q'])) q) hf⟩
  self := fun A i s Q E st h => wpAny_pyIter_zip st.1 h
def iZipM (K : PySem.W.Frag) (ta : TA) : TI := fun σ H R => ta σ H fun vs H1 => ∃ a b xs ys, vs = [.ref a, .ref b] ∧ SqT K H1 a xs ∧ SqL K H1 b ys ∧ R (ItzM K a b) H1
theorem pi_zipM {X : Cx} {e e2 : Expr} {ta : TA} {p pos tpos : Pos} {elts : List Expr} {kk : Nat} (hg : Gl X "zip") (hm : X.mg "zip" = none) (ha : PA X [e, e2] ta)
    (hs : starEach [e, e2] X.env = (false, eval e X.env) :: starEach [e2] X.env := by rfl) (hpl : (backTo pos (starEach [e2] X.env)).any (·.1) = false := by rfl) :
    PI X (.Tuple elts kk tpos) (.Call (.Name "zip" p) [e, e2] [] pos) (iZipM X.K ta) := by
  refine ⟨fun pins s σ H R I h => Call_ (ld_blt I hg hm PyProof.Rows.boot_zip (PyProof.Rows.callWith_type1 (thn (ha.run pos pins s σ H _ I h) fun us s1 hq1 => ?_) hs hpl))⟩
  obtain ⟨vs, H1, I1, r1, a, b, xs, ys, rfl, hqx, hqy, q⟩ := hq1
  obtain ⟨u, u', rfl, ru, ru'⟩ := vals2 r1
  cases ru
  cases ru'
  obtain ⟨its, rv, p1, _⟩ := I1.tuple hqx
  obtain ⟨its2, rv2, p2, _⟩ := I1.list hqy
  have pt : s1.heap.IsTuple a its.toArray := p1
  have pl : s1.heap.IsList b its2.toArray := p2.isList
  have la : a < s1.heap.objs.size := by obtain ⟨o, ho, _⟩ := pt; exact Heap.lt_size ho
  have lb : b < s1.heap.objs.size := by obtain ⟨o, ho, _⟩ := pl; exact Heap.lt_size ho
  refine zip_begins2 (begins_tuple a its.toArray) (begins_list b its2.toArray) pt pl fun h' hz hTI hTO h1 h2 hsz hk => wpAny_pyIter_zip hz ?_
  refine ⟨s1.heap.objs.size + 4, [s1.heap.objs.size + 4, s1.heap.objs.size + 2, s1.heap.objs.size + 3, s1.heap.objs.size, s1.heap.objs.size + 1], _, _, H1, rfl, I1.kept (t' := s1.toks) hk,
    turn_zipM (a := a) (b := b) (i1 := s1.heap.objs.size) (i2 := s1.heap.objs.size + 1) (zapart_at s1.heap.objs.size) ⟨Nat.ne_of_gt (Nat.lt_trans la (show s1.heap.objs.size < s1.heap.objs.size + 3 by omega)), Nat.ne_of_gt (Nat.lt_trans lb (show s1.heap.objs.size < s1.heap.objs.size + 3 by omega))⟩, ⟨hz, hTI, ⟨_, _, hTO⟩, ⟨_, h1, rfl, rfl⟩, ⟨_, h2, rfl, rfl⟩⟩, fun c hcm => ?_, q⟩
  have hle : s1.heap.objs.size ≤ c := by
    simp only [List.mem_cons, List.not_mem_nil, or_false] at hcm
    rcases hcm with rfl | rfl | rfl | rfl | rfl
    · exact Nat.le_add_right _ 4
    · exact Nat.le_add_right _ 2
    · exact Nat.le_add_right _ 3
    · exact Nat.le_refl _
    · exact Nat.le_add_right _ 1
  exact I1.fpOk hle (I1.hok.fresh hle)
theorem walk_zipM {K : PySem.W.Frag} {a b : Addr} {xs ys : List V} {n : Nat} (hn : n = min xs.length ys.length) : Walk (ItzM K a b) n (fun H => SqT K H a xs ∧ SqL K H b ys) (YPair (fun i => xs[i]?) (fun i => ys[i]?)) := by
  subst hn
  refine ⟨fun i _ hi q => ?_, fun _ q => ⟨xs, ys, q.1, q.2, by omega, by omega, by omega⟩, fun i H v H' _ q y => ?_⟩
  · have h1 : i < xs.length := by omega
    have h2 : i < ys.length := by omega
    exact ⟨xs, ys, xs[i], ys[i], q.1, q.2, by simp [h1], by simp [h2]⟩
  · obtain ⟨T, x, z, h1, h2, h3, h4, h5⟩ := y
    exact ⟨T, x, z, h1, h2, h3, h4 xs q.1, h5 ys q.2⟩
theorem walk_zipT {K : PySem.W.Frag} {a b : Addr} {xs ys : List V} {n : Nat} (hn : n = min xs.length ys.length) : Walk (RZ.ItzT K a b) n (fun H => SqT K H a xs ∧ SqT K H b ys) (YPair (fun i => xs[i]?) (fun i => ys[i]?)) := by
  subst hn
  refine ⟨fun i _ hi q => ?_, fun _ q => ⟨xs, ys, q.1, q.2, by omega⟩, fun i H v H' _ q y => ?_⟩
  · have h1 : i < xs.length := by omega
    have h2 : i < ys.length := by omega
    exact ⟨xs, ys, xs[i], ys[i], q.1, q.2, by simp [h1], by simp [h2]⟩
  · obtain ⟨T, x, z, h1, h2, h3, h4, h5⟩ := y
    exact ⟨T, x, z, h1, h2, h3, h4 xs q.1, h5 ys q.2⟩

/-! ### as sources -/
/-- a pair at T -/
def PairAt (P1 P2 : V → Hp → Prop) (x : V) (H : Hp) : Prop := ∃ T u v, x = .ref T ∧ H T = some (.tup [u, v]) ∧ P1 u H ∧ P2 v H
section
variable {K : PySem.W.Frag} {σ : L2.St} {H H' : Hp} {ta : TA} {ds es : List PyData}
theorem src_enumT (h : EvAD ta σ H [.tuple ds]) : Src (iEnumT K ta) σ H ds.zipIdx (fun p x H' => PairAt (fun u _ => u = .int (p.2 : Int)) (fun v H => Den H v p.1) x H') := fun H1 e R q =>
  h H1 e _ fun vs H2 e2 hd => by
    obtain ⟨v, rfl, hv⟩ : ∃ v, vs = [v] ∧ Den H2 v (.tuple ds) := by
      cases hd with
      | cons h1 h2 => cases h2; exact ⟨_, rfl, h1⟩
    obtain ⟨a, xs, rfl, ha, hx⟩ := hv.tuple
    refine ⟨a, xs, rfl, Evl.st_of ha, ?_⟩
    have hl := hx.len
    refine q _ H2 (fun H => SqT K H a xs) _ e2 (by rw [List.length_zipIdx, ← hl]; exact walk_enumT) (fun H3 e3 => Evl.st_of (e3 a _ ha)) fun i x H3 H4 e3 y hi => ?_
    obtain ⟨T, u, v, rfl, hT, rfl, hu, hv⟩ := y
    obtain ⟨d, h1, h2⟩ := hx.get hv
    refine ⟨Ex.new hT, (d, i), by rw [List.getElem?_zipIdx, h1]; simp, T, u, v, rfl, upd_same, (Option.some.inj hu).symm, h2.ex (e3.trans (Ex.new hT))⟩
theorem src_enumL {a : Addr} {xs : List V} {te : TE} (h : Ev te σ H (.ref a)) (ha : H a = some (.lst xs)) (hd : DenAll H xs ds) : Src (iEnum K (tCons te tNil)) σ H ds.zipIdx (fun p x H' => PairAt (fun u _ => u = .int (p.2 : Int)) (fun v H => Den H v p.1) x H') := fun H1 e R q =>
  h H1 e _ fun H2 e2 => by
    have e12 := e.trans e2
    refine ⟨a, xs, rfl, Evl.sq_of (e12 a _ ha), ?_⟩
    have hl := hd.len
    refine q _ H2 (fun H => SqL K H a xs) _ e2 (by rw [List.length_zipIdx, ← hl]; exact walk_enum) (fun H3 e3 => Evl.sq_of ((e12.trans e3) a _ ha)) fun i x H3 H4 e3 y hi => ?_
    obtain ⟨T, u, v, rfl, hT, rfl, hu, hv⟩ := y
    obtain ⟨d, h1, h2⟩ := hd.get hv
    refine ⟨Ex.new hT, (d, i), by rw [List.getElem?_zipIdx, h1]; simp, T, u, v, rfl, upd_same, (Option.some.inj hu).symm, h2.ex ((e12.trans e3).trans (Ex.new hT))⟩
theorem src_zipT (h : EvAD ta σ H [.tuple ds, .tuple es]) : Src (RZ.iZipA K ta) σ H (ds.zip es) (fun p x H' => PairAt (fun u H => Den H u p.1) (fun v H => Den H v p.2) x H') := fun H1 e R q =>
  h H1 e _ fun vs H2 e2 hd => by
    obtain ⟨u, v, rfl, hu, hv⟩ := hd.two
    obtain ⟨a, xs, rfl, ha, hx⟩ := hu.tuple
    obtain ⟨b, ys, rfl, hb, hy⟩ := hv.tuple
    refine ⟨a, b, xs, ys, rfl, .inr ⟨Evl.st_of ha, Evl.st_of hb, ?_⟩⟩
    refine q _ H2 (fun H => SqT K H a xs ∧ SqT K H b ys) _ e2 (by rw [List.length_zip, ← hx.len, ← hy.len]; exact walk_zipT rfl) (fun H3 e3 => ⟨Evl.st_of (e3 a _ ha), Evl.st_of (e3 b _ hb)⟩) fun i x H3 H4 e3 y hi => ?_
    obtain ⟨T, u, v, rfl, hT, rfl, hu, hv⟩ := y
    obtain ⟨d1, h1, k1⟩ := hx.get hu
    obtain ⟨d2, h2, k2⟩ := hy.get hv
    have e4 := e3.trans (Ex.new (o := .tup [u, v]) hT)
    exact ⟨Ex.new hT, (d1, d2), List.getElem?_zip_eq_some.mpr ⟨h1, h2⟩, T, u, v, rfl, upd_same, k1.ex e4, k2.ex e4⟩
/-- zip(t, list), the list's items told by PL -/
theorem src_zipM {te tl : TE} {a b : Addr} {xs ys : List V} {β : Type} {bs : List β} {PL : β → V → Hp → Prop} (h : Ev te σ H (.ref a)) (ha : H a = some (.tup xs)) (hx : DenAll H xs ds) (h' : Ev tl σ H (.ref b)) (hb : H b = some (.lst ys))
    (hl : ys.length = bs.length) (hy : ∀ (i : Nat) y β, ys[i]? = some y → bs[i]? = some β → ∀ H', Ex H H' → PL β y H') : Src (iZipM K (tCons te (tCons tl tNil))) σ H (ds.zip bs) (fun p x H' => PairAt (fun u H => Den H u p.1) (fun v H => PL p.2 v H) x H') := fun H1 e R q =>
  h H1 e _ fun H2 e2 => h' H2 (e.trans e2) _ fun H3 e3 => by
    have e13 := (e.trans e2).trans e3
    refine ⟨a, b, xs, ys, rfl, Evl.st_of (e13 a _ ha), Evl.sq_of (e13 b _ hb), ?_⟩
    refine q _ H3 (fun H => SqT K H a xs ∧ SqL K H b ys) _ (e2.trans e3) (by rw [List.length_zip, ← hx.len, ← hl]; exact walk_zipM rfl) (fun H4 e4 => ⟨Evl.st_of ((e13.trans e4) a _ ha), Evl.sq_of ((e13.trans e4) b _ hb)⟩) fun i x H4 H5 e4 y hi => ?_
    obtain ⟨T, u, v, rfl, hT, rfl, hu, hv⟩ := y
    obtain ⟨d1, h1, k1⟩ := hx.get hu
    have hib : i < bs.length := by
      have := (List.getElem?_eq_some_iff.mp hv).1
      omega
    have e5 := (e13.trans e4).trans (Ex.new (o := .tup [u, v]) hT)
    exact ⟨Ex.new hT, (d1, bs[i]), List.getElem?_zip_eq_some.mpr ⟨h1, by simp [hib]⟩, T, u, v, rfl, upd_same, k1.ex e5, hy i v _ hv (by simp [hib]) _ e5⟩
end
end Nh

namespace Nh
open PySem PySem.Spec PyProof.Rows L2 Evl
section
variable {P : Program} {w : World} {K : PySem.W.Frag} {mg : Str → Option Value} {base : Heap}
/-! ### lot_less -/
abbrev sLotLess : Stmt := topS 26
theorem scLotLess : FnScope ["lot", "towers", "tower"] ["lot", "towers"] (defScope sLotLess) := ⟨rfl, rfl, rfl, by decide +kernel, rfl, by decide +kernel, by decide +kernel⟩
def spLotLess : Sp := spD (fun (i : List Str × List Str) => [dLot i.1, dLot i.2]) (fun i => i.1.length ≤ 1000) fun i _ => Da (dLot (NhM.less i.1 i.2))
theorem ok_lotLess {f : Addr} {fd : FuncData} {k : Nat} (D : Df K mg "lot_less" sLotLess ["lot", "towers"] f fd) (B : Bn mg) : FnOk P w K mg base CX0 (k + 1) f fd ["lot", "towers"] spLotLess := by
  refine D.F.ok scLotLess (fun vs H Q E h => ?_) (fun cdv A outer s H vs Q E hr h => ?_)
  · obtain ⟨i, hd, _⟩ := h
    exact hd.len
  · obtain ⟨⟨l, t⟩, hd, hl, q⟩ := h
    obtain ⟨u, v, rfl, hu, hv⟩ := hd.two
    obtain ⟨a, rfl, ha⟩ := den_lot.mp hu
    obtain ⟨b, rfl, hb⟩ := den_lot.mp hv
    have hl : l.length ≤ 1000 := hl
    refine ⟨_, pss_one (ps_ret (pe_callTy call_tuple_of (by rfl) B.tuple (by decide +kernel) (pa_cons (pe_lc (own := [("tower", 2)]) (g := gName 2) (tt := tTest (tOp (rIn K true) (tVar 2) (tVar 1))) rfl scLotLess.nd (pi_tup (pv 0))
      (blkOk_by (N := ["lot", "towers", "tower"]) (sc := defScope sLotLess) (by decide +kernel)) (fun _ _ _ _ _ => pg_name (i := 2) scLotLess.nd rfl (Or.inl rfl)) (fun _ _ _ _ _ => pts_one (pt_cmpR op_notIn_seq (pv 2) (pv 1) (by rfl))) (fun _ _ _ _ _ => pv 2)) pa_nil))), ?_⟩
    refine s_retP ((evP_tupleOf (lcL (src_lot (ev_var rfl) ha) (by omega) (fun x => !decide (x ∈ t)) PyData.str ?_)).imp (P' := Da (dLot (NhM.less l t))) fun v H1 e h => h) q
    rintro x _ _ H' e rfl
    refine ⟨_, evG_name, rfl, et_test (ev_is (ev_op (ev_var rfl) (ev_var rfl) (rv_niT (Evl.st_of (e b _ hb)) rfl (flat_strs t))) ?_), fun _ => EvP.den (ev_var rfl) (.str x)⟩
    rw [inV_str]
end
end Nh

/-! the order of tuples of texts; more that evaluates -/
namespace Nh
open PySem PySem.Spec PyProof.Rows L2 Evl

/-- a text goes ahead of another -/
abbrev ltS (a b : Str) : Prop := a.cps.toList < b.cps.toList
/-- a tuple of texts goes ahead of another -/
def ltL : List Str → List Str → Bool
  | [], [] => false
  | [], _ :: _ => true
  | _ :: _, [] => false
  | x :: xs, y :: ys => if x = y then ltL xs ys else decide (ltS x y)
theorem le_irr (l : List Nat) : ¬ l < l := List.lt_irrefl l
theorem ltS_irr (a : Str) : ¬ ltS a a := List.lt_irrefl _
theorem ltS_trans {a b c : Str} (h : ltS a b) (h' : ltS b c) : ltS a c := List.lt_trans h h'
theorem str_ext {a b : Str} (h : a.cps.toList = b.cps.toList) : a = b := by
  cases a; cases b
  congr 1
  exact Array.toList_inj.mp h
theorem ltS_tri (a b : Str) (h : a ≠ b) (h' : ¬ ltS a b) : ltS b a := by
  have h1 : b.cps.toList ≤ a.cps.toList := List.not_lt.mp h'
  rcases List.le_iff_lt_or_eq.mp h1 with h2 | h2
  · exact h2
  · exact absurd (str_ext h2).symm h
theorem ltS_asy {a b : Str} (h : ltS a b) : ¬ ltS b a := fun h' => ltS_irr a (ltS_trans h h')

/-- a reading of the model's walk over two tuples -/
theorem lexAt_le (xs ys : List Str) : ∀ (n i : Nat), n + i = min xs.length ys.length →
    Ob.lexAt (fun j => decide (xs[j]? = ys[j]?)) (fun j => !decide (ltS (ys.getD j ⟨#[]⟩) (xs.getD j ⟨#[]⟩))) (decide (xs.length ≤ ys.length)) i n = !ltL (ys.drop i) (xs.drop i) := by
  intro n
  induction n with
  | zero =>
    intro i h
    show decide _ = _
    by_cases hl : xs.length ≤ ys.length
    · have e : i = xs.length := by omega
      rw [e, List.drop_length, decide_eq_true hl]
      cases h2 : ys.drop xs.length with
      | nil => rfl
      | cons => rfl
    · have e : i = ys.length := by omega
      rw [e, List.drop_length, decide_eq_false hl]
      cases h2 : xs.drop ys.length with
      | nil => have := List.drop_eq_nil_iff.mp h2; omega
      | cons => rfl
  | succ n ih =>
    intro i h
    have h1 : i < xs.length := by omega
    have h2 : i < ys.length := by omega
    rw [Ob.lexAt_succ, List.drop_eq_getElem_cons h1, List.drop_eq_getElem_cons h2]
    show (if decide (xs[i]? = ys[i]?) = true then _ else _) = !(if _ then _ else _)
    rw [List.getElem?_eq_getElem h1, List.getElem?_eq_getElem h2]
    by_cases hq : xs[i] = ys[i]
    · rw [hq, if_pos rfl, if_pos (decide_eq_true rfl)]
      exact ih (i + 1) (by omega)
    · rw [if_neg (show ¬ decide (some xs[i] = some ys[i]) = true by simp [hq]), if_neg (fun z => hq z.symm)]
      show (!decide (ltS (ys.getD i _) (xs.getD i _))) = _
      have e1 : xs.getD i ⟨#[]⟩ = xs[i] := by simp [List.getD, h1]
      have e2 : ys.getD i ⟨#[]⟩ = ys[i] := by simp [List.getD, h2]
      rw [e1, e2]
theorem lexAt_lt (xs ys : List Str) : ∀ (n i : Nat), n + i = min xs.length ys.length →
    Ob.lexAt (fun j => decide (xs[j]? = ys[j]?)) (fun j => decide (ltS (xs.getD j ⟨#[]⟩) (ys.getD j ⟨#[]⟩))) (decide (xs.length < ys.length)) i n = ltL (xs.drop i) (ys.drop i) := by
  intro n
  induction n with
  | zero =>
    intro i h
    show decide _ = _
    by_cases hl : xs.length < ys.length
    · have e : i = xs.length := by omega
      rw [e, List.drop_length, decide_eq_true hl]
      cases h2 : ys.drop xs.length with
      | nil => have := List.drop_eq_nil_iff.mp h2; omega
      | cons => rfl
    · have e : i = ys.length := by omega
      rw [e, List.drop_length, decide_eq_false hl]
      cases h2 : xs.drop ys.length with
      | nil => rfl
      | cons => rfl
  | succ n ih =>
    intro i h
    have h1 : i < xs.length := by omega
    have h2 : i < ys.length := by omega
    rw [Ob.lexAt_succ, List.drop_eq_getElem_cons h1, List.drop_eq_getElem_cons h2]
    show (if decide (xs[i]? = ys[i]?) = true then _ else _) = (if _ then _ else _)
    rw [List.getElem?_eq_getElem h1, List.getElem?_eq_getElem h2]
    by_cases hq : xs[i] = ys[i]
    · rw [hq, if_pos rfl, if_pos (decide_eq_true rfl)]
      exact ih (i + 1) (by omega)
    · rw [if_neg (show ¬ decide (some xs[i] = some ys[i]) = true by simp [hq]), if_neg hq]
      show decide (ltS (xs.getD i _) (ys.getD i _)) = _
      have e1 : xs.getD i ⟨#[]⟩ = xs[i] := by simp [List.getD, h1]
      have e2 : ys.getD i ⟨#[]⟩ = ys[i] := by simp [List.getD, h2]
      rw [e1, e2]
theorem min_swap (a b : Nat) : min a b = min b a := Nat.min_comm a b
/-- texts as the model holds them -/
theorem strs_vals {xs : List Str} {us : List Value} (r : Vals (xs.map V.str) us) : ∀ j (h : j < us.toArray.size), ∃ t, us.toArray[j] = .str (xs.getD j ⟨#[]⟩) t ∧ xs[j]? = some (xs.getD j ⟨#[]⟩) := by
  intro j h
  have hj : j < us.length := by simpa using h
  have hx : j < xs.length := by have := r.length; simp at this; omega
  obtain ⟨u, hu, ru⟩ := r.get (i := j) (x := .str xs[j]) (by simp [hx])
  obtain ⟨t, rfl⟩ := (show ∃ t, u = Value.str xs[j] t from ru)
  have e1 : xs.getD j ⟨#[]⟩ = xs[j] := by simp [List.getD, hx]
  refine ⟨t, ?_, by rw [e1]; exact List.getElem?_eq_getElem hx⟩
  rw [e1]
  have := List.getElem?_eq_some_iff.mp hu
  obtain ⟨_, e⟩ := this
  simpa using e
def rLeS (K : PySem.W.Frag) : R2 := fun x y H Q => ∃ (a b : Addr) (ns ms : List Str), x = .ref a ∧ y = .ref b ∧ SqT K H a (ns.map V.str) ∧ SqT K H b (ms.map V.str) ∧ Q (.bl (!ltL ms ns)) H
def rGeS (K : PySem.W.Frag) : R2 := fun x y H Q => ∃ (a b : Addr) (ns ms : List Str), x = .ref a ∧ y = .ref b ∧ SqT K H a (ns.map V.str) ∧ SqT K H b (ms.map V.str) ∧ Q (.bl (!ltL ns ms)) H
theorem le_strR (A : Around) (s : Shared) (a b : Str) (t u : Tok) : Ob.RcOp .LtE A s (.str a t) (.str b u) (!decide (ltS b a)) := fun _ _ _ _ h => PySem.P.le_str h
theorem ge_strR (A : Around) (s : Shared) (a b : Str) (t u : Tok) : Ob.RcOp .GtE A s (.str a t) (.str b u) (!decide (ltS a b)) := fun _ _ _ _ h => PySem.P.ge_str h
theorem beq_dec (a b : Str) : (a == b) = decide (some a = some b) := by
  by_cases h : a = b
  · rw [h, decide_eq_true rfl]; exact beq_iff_eq.mpr rfl
  · rw [decide_eq_false (fun z => h (Option.some.inj z))]; exact beq_eq_false_iff_ne.mpr h
theorem op_leS {X : Cx} (hu : X.A.units < cLine) : OpR X (compareOp .LtE) (rLeS X.K) := by
  intro pins s σ H x y v u Q I rx ry h
  obtain ⟨a, b, ns, ms, rfl, rfl, ha, hb, q⟩ := h
  cases rx
  cases ry
  obtain ⟨its, r1, p1, _⟩ := I.tuple ha
  obtain ⟨its2, r2, p2, _⟩ := I.tuple hb
  have e1 : its.toArray.size = ns.length := by have := r1.length; simp at this; simp; omega
  have e2 : its2.toArray.size = ms.length := by have := r2.length; simp at this; simp; omega
  have R := Ob.RcOp.tuples_le (A := X.A) (s := s) (e := fun j => decide (ns[j]? = ms[j]?)) (r := fun j => !decide (ltS (ms.getD j ⟨#[]⟩) (ns.getD j ⟨#[]⟩))) p1 p2 hu (fun j h1 h2 => by
    obtain ⟨t, et, en⟩ := strs_vals r1 j h1
    obtain ⟨t', et', en'⟩ := strs_vals r2 j h2
    rw [et, et', en, en', ← beq_dec]
    exact SeqAt.EqAt.str_str _ _ _ _) (fun j h1 h2 _ => by
    obtain ⟨t, et, en⟩ := strs_vals r1 j h1
    obtain ⟨t', et', en'⟩ := strs_vals r2 j h2
    rw [et, et']
    exact le_strR _ _ _ _ _ _)
  rw [e1, e2, lexAt_le ns ms _ 0 (by omega)] at R
  exact R X.prog X.w X.xe (EP X pins σ Q) ⟨.bl _, H, I, rfl, q⟩
theorem lexAt_ge (xs ys : List Str) : ∀ (n i : Nat), n + i = min xs.length ys.length →
    Ob.lexAt (fun j => decide (xs[j]? = ys[j]?)) (fun j => !decide (ltS (xs.getD j ⟨#[]⟩) (ys.getD j ⟨#[]⟩))) (decide (xs.length ≥ ys.length)) i n = !ltL (xs.drop i) (ys.drop i) := by
  intro n i h
  have := lexAt_le ys xs n i (by rw [min_swap]; exact h)
  rw [← this]
  congr 1
  funext j
  exact decide_eq_decide.mpr ⟨Eq.symm, Eq.symm⟩
theorem op_geS {X : Cx} (hu : X.A.units < cLine) : OpR X (compareOp .GtE) (rGeS X.K) := by
  intro pins s σ H x y v u Q I rx ry h
  obtain ⟨a, b, ns, ms, rfl, rfl, ha, hb, q⟩ := h
  cases rx
  cases ry
  obtain ⟨its, r1, p1, _⟩ := I.tuple ha
  obtain ⟨its2, r2, p2, _⟩ := I.tuple hb
  have e1 : its.toArray.size = ns.length := by have := r1.length; simp at this; simp; omega
  have e2 : its2.toArray.size = ms.length := by have := r2.length; simp at this; simp; omega
  have R := Ob.RcOp.tuples_ge (A := X.A) (s := s) (e := fun j => decide (ns[j]? = ms[j]?)) (r := fun j => !decide (ltS (ns.getD j ⟨#[]⟩) (ms.getD j ⟨#[]⟩))) p1 p2 hu (fun j h1 h2 => by
    obtain ⟨t, et, en⟩ := strs_vals r1 j h1
    obtain ⟨t', et', en'⟩ := strs_vals r2 j h2
    rw [et, et', en, en', ← beq_dec]
    exact SeqAt.EqAt.str_str _ _ _ _) (fun j h1 h2 _ => by
    obtain ⟨t, et, en⟩ := strs_vals r1 j h1
    obtain ⟨t', et', en'⟩ := strs_vals r2 j h2
    rw [et, et']
    exact ge_strR _ _ _ _ _ _)
  rw [e1, e2, lexAt_ge ns ms _ 0 (by omega)] at R
  exact R X.prog X.w X.xe (EP X pins σ Q) ⟨.bl _, H, I, rfl, q⟩
theorem ltL_irr : ∀ a : List Str, ltL a a = false
  | [] => rfl
  | x :: xs => by
    show (if x = x then _ else _) = _
    rw [if_pos rfl]
    exact ltL_irr xs
theorem ltL_asy : ∀ a b : List Str, ltL a b = true → ltL b a = false
  | [], [], h => rfl
  | [], _ :: _, h => rfl
  | _ :: _, [], h => nomatch h
  | x :: xs, y :: ys, h => by
    have h : (if x = y then ltL xs ys else decide (ltS x y)) = true := h
    show (if y = x then ltL ys xs else decide (ltS y x)) = false
    by_cases e : x = y
    · rw [if_pos e] at h
      rw [if_pos e.symm]
      exact ltL_asy xs ys h
    · rw [if_neg e] at h
      rw [if_neg (fun z => e z.symm)]
      exact decide_eq_false (ltS_asy (of_decide_eq_true h))
theorem ltL_tot : ∀ a b : List Str, a ≠ b → ltL a b = false → ltL b a = true
  | [], [], h, _ => absurd rfl h
  | [], _ :: _, _, h => nomatch h
  | _ :: _, [], _, h => rfl
  | x :: xs, y :: ys, h, h' => by
    have h' : (if x = y then ltL xs ys else decide (ltS x y)) = false := h'
    show (if y = x then ltL ys xs else decide (ltS y x)) = true
    by_cases e : x = y
    · rw [if_pos e] at h'
      rw [if_pos e.symm]
      exact ltL_tot xs ys (fun z => h (by rw [e, z])) h'
    · rw [if_neg e] at h'
      rw [if_neg (fun z => e z.symm)]
      exact decide_eq_true (ltS_tri x y e (of_decide_eq_false h'))
theorem ltL_trans : ∀ a b c : List Str, ltL a b = true → ltL b c = true → ltL a c = true
  | _, [], [], _, h => nomatch h
  | [], [], _ :: _, h, _ => nomatch h
  | [], _ :: _, [], _, h => nomatch h
  | [], _ :: _, _ :: _, _, _ => rfl
  | _ :: _, [], _ :: _, h, _ => nomatch h
  | _ :: _, _ :: _, [], _, h => nomatch h
  | x :: xs, y :: ys, z :: zs, h0, h0' => by
    have h : (if x = y then ltL xs ys else decide (ltS x y)) = true := h0
    have h' : (if y = z then ltL ys zs else decide (ltS y z)) = true := h0'
    clear h0 h0'
    show (if x = z then ltL xs zs else decide (ltS x z)) = true
    by_cases e : x = y
    · rw [if_pos e] at h
      subst e
      by_cases e2 : x = z
      · rw [if_pos e2] at h'
        rw [if_pos e2]
        exact ltL_trans xs ys zs h h'
      · rw [if_neg e2] at h'
        rw [if_neg e2]
        exact h'
    · rw [if_neg e] at h
      have h1 := of_decide_eq_true h
      by_cases e2 : y = z
      · subst e2
        rw [if_neg e]
        exact decide_eq_true h1
      · rw [if_neg e2] at h'
        have h2 := of_decide_eq_true h'
        rw [if_neg (fun q => by subst q; exact ltS_asy h1 h2)]
        exact decide_eq_true (ltS_trans h1 h2)
end Nh

/-! more that evaluates -/
namespace Nh
open PySem PySem.Spec PyProof.Rows L2 Evl

abbrev letters : Str := "abcdefghijklmnopqrstuvwxyz"
def rSign : R2 := fun x y H Q => ∃ (c : Nat) (z : Str), x = .str ⟨#[c]⟩ ∧ y = .str z ∧ Q (.bl (decide (c ∈ z.cps.toList))) H
def rLtS : R2 := fun x y H Q => ∃ i j, x = .str i ∧ y = .str j ∧ Q (.bl (decide (i.cps.toList < j.cps.toList))) H
def rLenStr : List V → Hp → VK → Prop := fun xs H Q => ∃ z, xs = [.str z] ∧ z.length ≤ sizeLine ∧ Q (.int z.length) H
def rTupOf (K : PySem.W.Frag) : List V → Hp → VK → Prop := fun xs H Q => ∃ p ys, xs = [.ref p] ∧ ((SqL K H p ys ∧ ∀ l, H l = none → Q (.ref l) (upd H l (.tup ys))) ∨ (SqT K H p ys ∧ Q (.ref p) H))
def rInt1 : List V → Hp → VK → Prop := fun xs H Q => (∃ i, xs = [.int i] ∧ Q (.int i) H) ∨ ∃ k, xs = [.bl k] ∧ Q (.int (if k then 1 else 0)) H
def rMin2 : List V → Hp → VK → Prop := fun xs H Q => ∃ i j, xs = [.int i, .int j] ∧ Q (.int (if j < i then j else i)) H
theorem units64 {A : Around} {k : Nat} (hr : Room k A) : A.units + 64 < cLine := hr.units
theorem units65 {A : Around} {k : Nat} (hr : Room k A) : A.units + 65 < cLine := by have := hr.un; omega

theorem cut_from (xs : List V) (k : Nat) : cutV xs (some (k : Int)) none = xs.drop k := by
  unfold cutV
  rw [HT.sIx_nat, HT.sIx_none]
  by_cases h : k ≤ xs.length
  · rw [Nat.min_eq_left h]
    exact List.take_of_length_le (by rw [List.length_drop]; omega)
  · rw [Nat.min_eq_right (by omega), List.drop_length, List.drop_of_length_le (by omega), List.take_nil]
theorem cut_to (xs : List V) (k : Nat) : cutV xs none (some (k : Int)) = xs.take k := by
  unfold cutV
  rw [HT.sIx_nat, HT.sIx_none, List.drop_zero, Nat.sub_zero]
  by_cases h : k ≤ xs.length
  · rw [Nat.min_eq_left h]
  · rw [Nat.min_eq_right (by omega), List.take_length, List.take_of_length_le (by omega)]
/-- what a whole slice gives -/
theorem cut_whole (xs : List V) (lo hi : Option Int) (h : HT.sIx xs.length 0 lo = 0 ∧ HT.sIx xs.length xs.length hi = xs.length) : cutV xs lo hi = xs := by
  unfold cutV
  rw [h.1, h.2, List.drop_zero, Nat.sub_zero, List.take_length]
section
variable {K : PySem.W.Frag} {σ : L2.St} {H H' : Hp} {te ta tb : TE} {tr : TA} {t : TT} {P P' : PP} {x u v : V} {d : PyData} {ds : List PyData} {a : Addr} {xs : List V}
theorem ev_isi {T : String} {ty : Value} {b : Bool} (h : Ev te σ H v) (hy : ∀ H1, Ex H H1 → TyX K H1 v ty) (e : PySem.W.kitOne K ty (.type T) = some b) : Ev (tCB (rIsi K) (tCons te (tCons (tC (.ty T)) tNil))) σ H (.bl b) := fun H1 e1 Q q =>
  h H1 e1 _ fun H2 e2 => ⟨v, .ty T, ty, .type T, b, rfl, .ty T, hy H2 (e1.trans e2), e, q H2 e2⟩
theorem ev_isiT (h : Ev te σ H (.ref a)) (ha : H a = some (.tup xs)) : Ev (tCB (rIsi K) (tCons te (tCons (tC (.ty "tuple")) tNil))) σ H (.bl true) := ev_isi h (fun H1 e => .base (.tup (e a _ ha))) (kit_ty (by decide +kernel))
theorem ev_isiS {z : Str} (h : Ev te σ H (.str z)) : Ev (tCB (rIsi K) (tCons te (tCons (tC (.ty "str")) tNil))) σ H (.bl true) := ev_isi h (fun H1 e => .base (.str z)) (kit_ty (by decide +kernel))
theorem ev_isiI {i : Int} (h : Ev te σ H (.int i)) : Ev (tCB (rIsi K) (tCons te (tCons (tC (.ty "int")) tNil))) σ H (.bl true) := ev_isi h (fun H1 e => .base (.int i)) (kit_ty (by decide +kernel))
theorem ev_isiB {i : Int} (h : Ev te σ H (.int i)) : Ev (tCB (rIsi K) (tCons te (tCons (tC (.ty "bool")) tNil))) σ H (.bl false) := ev_isi h (fun H1 e => .base (.int i)) (kit_ty (by decide +kernel))
theorem ev_lenT (h : Ev te σ H (.ref a)) (ha : H a = some (.tup xs)) : Ev (tCB (rLenS K) (tCons te tNil)) σ H (.int (xs.length : Int)) := fun H1 e Q q =>
  h H1 e _ fun H2 e2 => ⟨a, xs, rfl, Or.inr (Evl.st_of ((e.trans e2) a _ ha)), q H2 e2⟩
theorem ev_lenL (h : Ev te σ H (.ref a)) (ha : H a = some (.lst xs)) : Ev (tCB (rLenS K) (tCons te tNil)) σ H (.int (xs.length : Int)) := fun H1 e Q q =>
  h H1 e _ fun H2 e2 => ⟨a, xs, rfl, Or.inl (Evl.sq_of ((e.trans e2) a _ ha)), q H2 e2⟩
/-- the length of data -/
theorem ev_lenP (h : EvP te σ H (Da (.tuple ds))) : Ev (tCB (rLenS K) (tCons te tNil)) σ H (.int (ds.length : Int)) := fun H1 e Q q =>
  h H1 e _ fun v H2 e2 p => by
    obtain ⟨a, xs, rfl, ha, hd⟩ := Den.tuple p
    refine ⟨a, xs, rfl, Or.inr (Evl.st_of ha), ?_⟩
    rw [hd.len]
    exact q H2 e2
theorem ev_lenN {H0 : Hp} (h : EvP te σ H (ND H0 ds)) : Ev (tCB (rLenS K) (tCons te tNil)) σ H (.int (ds.length : Int)) := fun H1 e Q q =>
  h H1 e _ fun v H2 e2 p => by
    obtain ⟨a, xs, rfl, _, ha, hd⟩ := p
    refine ⟨a, xs, rfl, Or.inl (Evl.sq_of ha), ?_⟩
    rw [hd.len]
    exact q H2 e2
theorem ev_lenStr {z : Str} (h : Ev te σ H (.str z)) (hz : z.length ≤ 100000) : Ev (tCB rLenStr (tCons te tNil)) σ H (.int (z.length : Int)) := fun H1 e Q q =>
  h H1 e _ fun H2 e2 => ⟨z, rfl, Evl.sz_of hz, q H2 e2⟩
/-- a slice of a tuple -/
theorem evP_slT {tl th : TO} {lo hi : Option Int} {es : List PyData} (h : EvP te σ H (Da (.tuple ds))) (h1 : EvO tl σ H lo) (h2 : EvO th σ H hi) (hs : ∀ vs H', DenAll H' vs ds → DenAll H' (cutV vs lo hi) es) : EvP (tSl (rSlA K) te tl th) σ H (Da (.tuple es)) := fun H1 e Q q =>
  h H1 e _ fun v H2 e2 p => h1 H2 (e.trans e2) _ fun H3 e3 => h2 H3 ((e.trans e2).trans e3) _ fun H4 e4 => by
    obtain ⟨a, xs, rfl, ha, hd⟩ := Den.tuple p
    have e24 := e3.trans e4
    refine ⟨a, xs, rfl, Evl.st_of (e24 a _ ha), fun hw => ?_, fun _ p hp => ?_⟩
    · have := hs xs H4 (hd.ex e24)
      rw [cut_whole xs lo hi hw] at this
      exact q _ H4 (e2.trans e24) (.tup (e24 a _ ha) this)
    · exact q _ _ ((e2.trans e24).trans (Ex.new hp)) (.tup upd_same ((hs xs H4 (hd.ex e24)).ex (Ex.new hp)))
theorem evP_slFrom {k : Nat} {tk : TE} (h : EvP te σ H (Da (.tuple ds))) (hk : Ev tk σ H (.int (k : Int))) : EvP (tSl (rSlA K) te (tPart tk) tNoPart) σ H (Da (.tuple (ds.drop k))) :=
  evP_slT h (eo_some hk) eo_none fun vs H' d => by rw [cut_from]; exact d.drop k
theorem evP_slTo {k : Nat} {tk : TE} (h : EvP te σ H (Da (.tuple ds))) (hk : Ev tk σ H (.int (k : Int))) : EvP (tSl (rSlA K) te tNoPart (tPart tk)) σ H (Da (.tuple (ds.take k))) :=
  evP_slT h eo_none (eo_some hk) fun vs H' d => by rw [cut_to]; exact d.take k
/-- t[i] of data -/
theorem evP_ix {ti : TE} {i : Nat} (h : EvP te σ H (Da (.tuple ds))) (hi : Ev ti σ H (.int (i : Int))) (hg : ds[i]? = some d) : EvP (tOp (rIxT K) te ti) σ H (Da d) := fun H1 e _ q =>
  h H1 e _ fun v H2 e2 p => hi H2 (e.trans e2) _ fun H3 e3 => by
    obtain ⟨a, xs, rfl, ha, hx⟩ := Den.tuple p
    obtain ⟨v, hv, hdv⟩ := hx.at hg
    exact ⟨a, xs, (i : Int), v, rfl, rfl, Evl.st_of (e3 a _ ha), atI_nat hv, q v H3 (e2.trans e3) (hdv.ex e3)⟩
theorem EvP.var {i : Nat} (h : σ[i]? = some (some v)) (hd : Den H v d) : EvP (tVar i) σ H (Da d) := EvP.den (ev_var h) hd
/-- data that is one value is that value -/
theorem EvP.str {z : Str} (h : EvP te σ H (Da (.str z))) : Ev te σ H (.str z) := fun H1 e Q q => h H1 e _ fun v H2 e2 p => by cases p; exact q H2 e2
theorem EvP.int {i : Int} (h : EvP te σ H (Da (.int i))) : Ev te σ H (.int i) := fun H1 e Q q => h H1 e _ fun v H2 e2 p => by cases p; exact q H2 e2
theorem EvP.bl {b : Bool} (h : EvP te σ H (Da (.bool b))) : Ev te σ H (.bl b) := fun H1 e Q q => h H1 e _ fun v H2 e2 p => by cases p; exact q H2 e2
theorem EvP.non (h : EvP te σ H (Da .none)) : Ev te σ H .non := fun H1 e Q q => h H1 e _ fun v H2 e2 p => by cases p; exact q H2 e2
theorem ev_int {i : Nat} : Ev (tC (.int (i : Int))) σ H (.int (i : Int)) := ev_c
theorem ev_ltS {p q : Str} (h : Ev ta σ H (.str p)) (h' : Ev tb σ H (.str q)) : Ev (tOp rLtS ta tb) σ H (.bl (decide (ltS p q))) := ev_op h h' fun H1 _ _ k => ⟨p, q, rfl, rfl, k H1 (Ex.refl H1)⟩
theorem ev_sign {c : Nat} {z : Str} (h : Ev ta σ H (.str ⟨#[c]⟩)) : Ev (tOp rSign ta (tC (.str z))) σ H (.bl (decide (c ∈ z.cps.toList))) := ev_op h ev_c fun H1 _ _ k => ⟨c, z, rfl, rfl, k H1 (Ex.refl H1)⟩
/-- x in t, x not in t, of texts -/
theorem ev_inS {neg : Bool} {z : Str} {l : List Str} (h : Ev ta σ H (.str z)) (hb : EvP tb σ H (Da (dLot l))) : Ev (tOp (rIn K neg) ta tb) σ H (.bl (if neg then !decide (z ∈ l) else decide (z ∈ l))) := fun H1 e Q q =>
  h H1 e _ fun H2 e2 => hb H2 (e.trans e2) _ fun v H3 e3 p => by
    obtain ⟨a, rfl, ha⟩ := den_lot.mp p
    refine ⟨a, _, rfl, Or.inr (Evl.st_of ha), rfl, flat_strs l, ?_⟩
    rw [inV_str]
    exact q H3 (e2.trans e3)
theorem ev_leS {p q : List Str} (h : EvP ta σ H (Da (dLot p))) (h' : EvP tb σ H (Da (dLot q))) : Ev (tOp (rLeS K) ta tb) σ H (.bl (!ltL q p)) := fun H1 e Q k =>
  h H1 e _ fun v H2 e2 pv => h' H2 (e.trans e2) _ fun v' H3 e3 pv' => by
    obtain ⟨a, rfl, ha⟩ := den_lot.mp pv
    obtain ⟨b, rfl, hb⟩ := den_lot.mp pv'
    exact ⟨a, b, p, q, rfl, rfl, Evl.st_of (e3 a _ ha), Evl.st_of hb, k H3 (e2.trans e3)⟩
theorem ev_geS {p q : List Str} (h : EvP ta σ H (Da (dLot p))) (h' : EvP tb σ H (Da (dLot q))) : Ev (tOp (rGeS K) ta tb) σ H (.bl (!ltL p q)) := fun H1 e Q k =>
  h H1 e _ fun v H2 e2 pv => h' H2 (e.trans e2) _ fun v' H3 e3 pv' => by
    obtain ⟨a, rfl, ha⟩ := den_lot.mp pv
    obtain ⟨b, rfl, hb⟩ := den_lot.mp pv'
    exact ⟨a, b, p, q, rfl, rfl, Evl.st_of (e3 a _ ha), Evl.st_of hb, k H3 (e2.trans e3)⟩
theorem ev_eqI {i j : Int} (h : Ev ta σ H (.int i)) (h' : Ev tb σ H (.int j)) : Ev (tOp rEq ta tb) σ H (.bl (decide (i = j))) := ev_is (ev_op h h' (rv_eq rfl)) (by
  congr 1
  exact decide_eq_decide.mpr ⟨fun z => by injection z, fun z => by rw [z]⟩)
theorem ev_eqStr {i j : Str} (h : Ev ta σ H (.str i)) (h' : Ev tb σ H (.str j)) : Ev (tOp rEq ta tb) σ H (.bl (decide (i = j))) := ev_is (ev_op h h' (rv_eq rfl)) (by
  congr 1
  exact decide_eq_decide.mpr ⟨fun z => by injection z, fun z => by rw [z]⟩)
theorem ev_neStr {i j : Str} (h : Ev ta σ H (.str i)) (h' : Ev tb σ H (.str j)) : Ev (tOp rNe ta tb) σ H (.bl (!decide (i = j))) := ev_is (ev_op h h' (rv_ne rfl)) (by
  congr 2
  exact decide_eq_decide.mpr ⟨fun z => by injection z, fun z => by rw [z]⟩)
theorem ev_isNone (h : Ev ta σ H v) : Ev (tOp (fun x y H Q => y = .non ∧ Q (.bl (decide (x = .non))) H) ta (tC .non)) σ H (.bl (decide (v = .non))) := ev_op h ev_c fun H1 _ _ k => ⟨rfl, k H1 (Ex.refl H1)⟩
theorem ev_notNone (h : Ev ta σ H v) : Ev (tOp (fun x y H Q => y = .non ∧ Q (.bl (!decide (x = .non))) H) ta (tC .non)) σ H (.bl (!decide (v = .non))) := ev_op h ev_c fun H1 _ _ k => ⟨rfl, k H1 (Ex.refl H1)⟩
/-- is it None, of data -/
def isNone : PyData → Bool
  | .none => true
  | _ => false
theorem Den.isNone {H : Hp} (h : Den H v d) : decide (v = .non) = Nh.isNone d := by
  cases h <;> rfl
theorem ev_isNoneP (h : EvP ta σ H (Da d)) : Ev (tOp (fun x y H Q => y = .non ∧ Q (.bl (decide (x = .non))) H) ta (tC .non)) σ H (.bl (isNone d)) := fun H1 e Q q =>
  h H1 e _ fun v H2 e2 p => ⟨rfl, by rw [Den.isNone p]; exact q H2 e2⟩
theorem ev_notNoneP (h : EvP ta σ H (Da d)) : Ev (tOp (fun x y H Q => y = .non ∧ Q (.bl (!decide (x = .non))) H) ta (tC .non)) σ H (.bl (!isNone d)) := fun H1 e Q q =>
  h H1 e _ fun v H2 e2 p => ⟨rfl, by rw [Den.isNone p]; exact q H2 e2⟩
theorem ev_gt {i j : Int} (h : Ev ta σ H (.int i)) (h' : Ev tb σ H (.int j)) : Ev (tOp (rI0 fun i j => .bl (decide (j < i))) ta tb) σ H (.bl (decide (j < i))) := ev_op h h' rv_I0
theorem ev_lt {i j : Int} (h : Ev ta σ H (.int i)) (h' : Ev tb σ H (.int j)) : Ev (tOp (rI0 fun i j => .bl (decide (i < j))) ta tb) σ H (.bl (decide (i < j))) := ev_op h h' rv_I0
theorem ev_le {i j : Int} (h : Ev ta σ H (.int i)) (h' : Ev tb σ H (.int j)) : Ev (tOp (rI0 fun i j => .bl (decide (i ≤ j))) ta tb) σ H (.bl (decide (i ≤ j))) := ev_op h h' rv_I0
theorem ev_sub {i j : Int} (h : Ev ta σ H (.int i)) (h' : Ev tb σ H (.int j)) : Ev (tOp (rI0 fun i j => .int (i - j)) ta tb) σ H (.int (i - j)) := ev_op h h' rv_I0
theorem ev_add {i j : Int} (h : Ev ta σ H (.int i)) (h' : Ev tb σ H (.int j)) : Ev (tOp (rI0 fun i j => .int (i + j)) ta tb) σ H (.int (i + j)) := ev_op h h' rv_I0
theorem Da.den {v : V} {H : Hp} {d : PyData} (h : Da d v H) : Den H v d := h
theorem evP_non : EvP (tC .non) σ H (Da .none) := EvP.den ev_c .non
theorem evP_c_int {i : Int} : EvP (tC (.int i)) σ H (Da (.int i)) := EvP.den ev_c (.int i)
theorem evP_of_str {z : Str} (h : Ev te σ H (.str z)) : EvP te σ H (Da (.str z)) := EvP.den h (.str z)
theorem evP_of_int {z : Int} (h : Ev te σ H (.int z)) : EvP te σ H (Da (.int z)) := EvP.den h (.int z)
theorem evP_of_bl {z : Bool} (h : Ev te σ H (.bl z)) : EvP te σ H (Da (.bool z)) := EvP.den h (.bl z)
end
end Nh

namespace Nh
open PySem PySem.Spec PyProof.Rows L2 Evl
section
variable {P : Program} {w : World} {K : PySem.W.Frag} {mg : Str → Option Value} {base : Heap}

theorem spD_len {ι : Type} {args : ι → List PyData} {ok : ι → Prop} {R : ι → Hp → PP} (n : Nat) (hn : ∀ i, (args i).length = n) : ∀ vs H Q E, spD args ok R vs H Q E → vs.length = n := fun _ _ _ _ ⟨i, hd, _⟩ => hd.len.trans (hn i)
/-- the module's own constants -/
structure Gm (mg : Str → Option Value) : Prop where
  letters : ∃ t, mg "LETTERS" = some (.str letters t)
  most : ∃ t, mg "MOST_LETTERS" = some (.int 8 t)
def nameOk (s : Str) : Prop := 1 ≤ s.length ∧ s.length ≤ 8 ∧ ∀ c ∈ s.cps.toList, c ∈ letters.cps.toList
theorem DenAll.one {H : Hp} {vs : List V} {a : PyData} (h : DenAll H vs [a]) : ∃ u, vs = [u] ∧ Den H u a := by
  cases h with
  | cons h1 h => cases h; exact ⟨_, rfl, h1⟩
theorem DenAll.three {H : Hp} {vs : List V} {a b c : PyData} (h : DenAll H vs [a, b, c]) : ∃ u v x, vs = [u, v, x] ∧ Den H u a ∧ Den H v b ∧ Den H x c := by
  cases h with
  | cons h1 h =>
    obtain ⟨v, x, rfl, h2, h3⟩ := h.two
    exact ⟨_, v, x, rfl, h1, h2, h3⟩
theorem DenAll.four {H : Hp} {vs : List V} {a b c d : PyData} (h : DenAll H vs [a, b, c, d]) : ∃ u v x y, vs = [u, v, x, y] ∧ Den H u a ∧ Den H v b ∧ Den H x c ∧ Den H y d := by
  cases h with
  | cons h1 h =>
    obtain ⟨v, x, y, rfl, h2, h3, h4⟩ := h.three
    exact ⟨_, v, x, y, rfl, h1, h2, h3, h4⟩
theorem q_skip {t : TT} {σ : L2.St} {H : Hp} {tu tz : TS} {D : Ends} (h : EvT t σ H false) (k : ∀ H1, Ex H H1 → tz D σ H1) : tSeq (tIfS t tu tNext) tz D σ H := s_if (D := { D with nx := tz D }) h (fun z => nomatch z) (fun _ => k)
theorem all_true {α : Type} (l : List α) (f : α → Bool) (h : ∀ x ∈ l, f x = true) : ((l.map f).all id) = true := by
  rw [List.all_eq_true]
  intro b hb
  obtain ⟨x, hx, rfl⟩ := List.mem_map.mp hb
  exact h x hx
abbrev RT (ι : Type) : ι → Hp → PP := fun _ _ v _ => v = .bl true
theorem ev_callT {ι : Type} {args : ι → List PyData} {ok : ι → Prop} {σ : L2.St} {H : Hp} {ta : TA} {E : XK} (i : ι) (h : EvAD ta σ H (args i)) (hk : ok i) : Ev (tCall (spD args ok (RT ι)) [] E ta) σ H (.bl true) := ev_callB (b := fun _ => true) i h hk
theorem EvP.of1 {te : TE} {σ : L2.St} {H : Hp} {v : V} {d : PyData} (h : Ev te σ H v) (hd : Den H v d) : EvAD (tCons te tNil) σ H [d] := ead_cons (EvP.den h hd) ead_nil
theorem EvP.of2 {te tf : TE} {σ : L2.St} {H : Hp} {d d' : PyData} (h : EvP te σ H (Da d)) (h' : EvP tf σ H (Da d')) : EvAD (tCons te (tCons tf tNil)) σ H [d, d'] := ead_cons h (ead_cons h' ead_nil)
theorem strS_len (s : Str) : s.length = s.cps.toList.length := by rw [Array.length_toList]; rfl
abbrev st_is_integer : Stmt := topS 3
theorem sc_is_integer : FnScope ["thing"] ["thing"] (defScope st_is_integer) := ⟨rfl, rfl, rfl, by decide +kernel, rfl, by decide +kernel, by decide +kernel⟩
def sp_is_integer : Sp := spD (fun (i : Int) => [.int i]) (fun _ => True) (RT Int)
theorem ok_is_integer {f : Addr} {fd : FuncData} (D : Df K mg "is_integer" st_is_integer ["thing"] f fd) (B : Bn mg)   : C8.Cal P w K mg base 1 "is_integer" sp_is_integer [] := by
  refine D.cal (D.F.ok (k := 0) sc_is_integer (spD_len 1 fun _ => rfl) (fun cdv A outer s H vs Q E hr h => ?_))
  obtain ⟨i, hd, -, q⟩ := h
  try dsimp only at hd q
  obtain ⟨u, rfl, hu⟩ := hd.one
  cases hu
  refine ⟨_, (pss_one (ps_ret (pe_and (pe_callB call_isi (by rfl) B.isi boot_isinstance (pa_cons (pv 0) (pa_cons (pe_bltn (v := .ty "int") (by rfl) B.int (by decide +kernel) rfl) pa_nil))) (pe_one (pe_not (pe_callB call_isi (by rfl) B.isi boot_isinstance (pa_cons (pv 0) (pa_cons (pe_bltn (v := .ty "bool") (by rfl) B.bool (by decide +kernel) rfl) pa_nil)))))))), ?_⟩
  exact s_ret (ev_andV (a := true) (b := true) (ev_isiI (ev_var rfl)) fun _ => ev_is (ev_notV (ev_isiB (ev_var rfl))) rfl) fun H1 e => q _ H1 e rfl
abbrev st_is_tuple_of : Stmt := topS 4
theorem sc_is_tuple_of : FnScope ["thing", "many"] ["thing", "many"] (defScope st_is_tuple_of) := ⟨rfl, rfl, rfl, by decide +kernel, rfl, by decide +kernel, by decide +kernel⟩
def sp_is_tuple_of : Sp := spD (fun (i : List PyData × Int) => [.tuple i.1, .int i.2]) (fun _ => True) (fun i _ v _ => v = .bl (decide ((i.1.length : Int) = i.2)))
theorem ok_is_tuple_of {f : Addr} {fd : FuncData} (D : Df K mg "is_tuple_of" st_is_tuple_of ["thing", "many"] f fd) (B : Bn mg)   : C8.Cal P w K mg base 1 "is_tuple_of" sp_is_tuple_of [] := by
  refine D.cal (D.F.ok (k := 0) sc_is_tuple_of (spD_len 2 fun _ => rfl) (fun cdv A outer s H vs Q E hr h => ?_))
  obtain ⟨⟨ds, n⟩, hd, -, q⟩ := h
  try dsimp only at hd q
  obtain ⟨u, v, rfl, hu, hv⟩ := hd.two
  cases hv
  obtain ⟨a, xs, rfl, ha, hx⟩ := hu.tuple
  refine ⟨_, (pss_one (ps_ret (pe_and (pe_callB call_isi (by rfl) B.isi boot_isinstance (pa_cons (pv 0) (pa_cons (pe_bltn (v := .ty "tuple") (by rfl) B.tuple (by decide +kernel) rfl) pa_nil))) (pe_one (pe_cmpR op_eq (pe_callB call_len_seq (by rfl) B.len boot_len (pa_cons (pv 0) pa_nil)) (pv 1) (nomark _)))))), ?_⟩
  refine s_ret (ev_andV (a := true) (b := decide ((ds.length : Int) = n)) (ev_isiT (ev_var rfl) ha) fun _ => ev_eqI (ev_lenP (EvP.var rfl (.tup ha hx))) (ev_var rfl)) fun H1 e => q _ H1 e ?_
  rw [Bool.true_and]
abbrev st_are_integers : Stmt := topS 5
theorem sc_are_integers : FnScope ["thing", "many", "one"] ["thing", "many"] (defScope st_are_integers) := ⟨rfl, rfl, rfl, by decide +kernel, rfl, by decide +kernel, by decide +kernel⟩
def sp_are_integers : Sp := spD (fun (l : List Int) => [.tuple (l.map .int), .int (l.length : Int)]) (fun l => l.length ≤ 1000) (RT (List Int))
theorem ok_are_integers {f : Addr} {fd : FuncData} (D : Df K mg "are_integers" st_are_integers ["thing", "many"] f fd) (B : Bn mg)  (c_is_integer : C8.Cal P w K mg base 1 "is_integer" sp_is_integer []) (c_is_tuple_of : C8.Cal P w K mg base 1 "is_tuple_of" sp_is_tuple_of []) : C8.Cal P w K mg base 2 "are_integers" sp_are_integers [] := by
  refine D.cal (D.F.ok (k := 1) sc_are_integers (spD_len 2 fun _ => rfl) (fun cdv A outer s H vs Q E hr h => ?_))
  obtain ⟨l, hd, hl, q⟩ := h
  try dsimp only at hd q
  obtain ⟨u, v, rfl, hu, hv⟩ := hd.two
  cases hv
  obtain ⟨a, xs, rfl, ha, hx⟩ := hu.tuple
  have hl : l.length ≤ 1000 := hl
  refine ⟨_, (pss_one (ps_ret (pe_and (C8.pe_c c_is_tuple_of hr (by decide) (by rfl) (pa_cons (pv 0) (pa_cons (pv 1) pa_nil))) (pe_one (pe_callB (cr_all rfl) (by rfl) B.all (by decide +kernel) (pa_cons (pe_lc (own := [("one", 2)]) (g := (gName 2)) (tt := tYes) (te := (tCall sp_is_integer [] E0 (tCons (tVar 2) tNil))) rfl sc_are_integers.nd (pi_tup (pv 0)) (blkOk_by (N := ["thing", "many", "one"]) (sc := defScope st_are_integers) (by decide +kernel)) (fun _ _ _ _ _ => (pg_name (i := 2) sc_are_integers.nd rfl (Or.inl rfl))) (fun _ _ _ _ _ => pts_nil) (fun _ _ _ _ _ => (C8.pe_c c_is_integer hr (by decide) (by rfl) (pa_cons (pv 2) pa_nil)))) pa_nil)))))), ?_⟩
  refine s_ret (ev_andV (a := true) (b := true) (ev_is (ev_callB (b := fun i : List PyData × Int => decide ((i.1.length : Int) = i.2)) (l.map .int, (l.length : Int)) (EvP.of2 (EvP.var rfl (.tup ha hx)) (EvP.var rfl (.int _))) trivial) (by simp)) fun _ => ?_) fun H1 e => q _ H1 e rfl
  refine ev_is (ev_all (H0 := H) (bs := (l.map PyData.int).map fun _ => true) ?_) (by rw [all_true _ _ (fun _ _ => rfl)])
  refine ((lcY (src_tup (ev_var rfl) ha hx) (by rw [List.length_map]; omega) (fun _ => PyData.bool true) fun x hx v H' e hv => ⟨_, evG_name, rfl, ?_⟩).imp fun v H1 e h => ?_)
  · obtain ⟨i, _, rfl⟩ := List.mem_map.mp hx
    cases hv
    exact evP_of_bl (ev_callT i (EvP.of1 (ev_var rfl) (.int i)) trivial)
  · rw [List.map_map]; exact h

theorem asc_zip {l : List Str} (h : l.Pairwise ltS) : ∀ p ∈ l.zip (l.drop 1), ltS p.1 p.2 := by
  induction l with
  | nil => intro p hp; cases hp
  | cons x l ih =>
    intro p hp
    rw [List.drop_one, List.tail_cons] at hp
    cases l with
    | nil => cases hp
    | cons y l =>
      rw [List.zip_cons_cons] at hp
      rcases List.mem_cons.mp hp with rfl | hp
      · exact (List.pairwise_cons.mp h).1 y List.mem_cons_self
      · exact ih (List.pairwise_cons.mp h).2 p (by rw [List.drop_one, List.tail_cons]; exact hp)
theorem drop_map {α β : Type} (f : α → β) (l : List α) (n : Nat) : (l.map f).drop n = (l.drop n).map f := by rw [List.map_drop]
theorem pair_strs {ds es : List Str} {x : V} {H : Hp} {p : PyData × PyData} (h : p ∈ (ds.map PyData.str).zip (es.map PyData.str)) (hx : PairAt (fun u H => Den H u p.1) (fun v H => Den H v p.2) x H) :
    ∃ q ∈ ds.zip es, ∃ t, x = .ref t ∧ H t = some (.tup [.str q.1, .str q.2]) := by
  rw [List.zip_map] at h
  obtain ⟨q, hq, rfl⟩ := List.mem_map.mp h
  obtain ⟨t, u, v, rfl, ht, hu, hv⟩ := hx
  cases hu; cases hv
  exact ⟨q, hq, t, rfl, ht⟩
abbrev st_are_ascending : Stmt := topS 6
theorem sc_are_ascending : FnScope ["things", "one", "next_one"] ["things"] (defScope st_are_ascending) := ⟨rfl, rfl, rfl, by decide +kernel, rfl, by decide +kernel, by decide +kernel⟩
def sp_are_ascending : Sp := spD (fun (l : List Str) => [dLot l]) (fun l => l.length ≤ 1000 ∧ l.Pairwise ltS) (RT (List Str))
theorem ok_are_ascending {f : Addr} {fd : FuncData} (D : Df K mg "are_ascending" st_are_ascending ["things"] f fd) (B : Bn mg)   : C8.Cal P w K mg base 1 "are_ascending" sp_are_ascending [] := by
  refine D.cal (D.F.ok (k := 0) sc_are_ascending (spD_len 1 fun _ => rfl) (fun cdv A outer s H vs Q E hr h => ?_))
  obtain ⟨l, hd, ⟨hl, hs⟩, q⟩ := h
  try dsimp only at hd q
  obtain ⟨u, rfl, hu⟩ := hd.one
  have hl : l.length ≤ 1000 := hl
  refine ⟨_, (pss_one (ps_ret (pe_callB (cr_all rfl) (by rfl) B.all (by decide +kernel) (pa_cons (pe_lc (own := [("one", 1), ("next_one", 2)]) (g := (gTup K 2 (gCons (gName 1) (gCons (gName 2) gNil)))) (tt := tYes) (te := (tOp rLtS (tVar 1) (tVar 2))) rfl sc_are_ascending.nd (RZ.pi_zipA (by rfl) B.zip (pa_cons (pv 0) (pa_cons (pe_slice sl_tupA (pv 0) (po_some pe_int) po_none) pa_nil))) (blkOk_by (N := ["things", "one", "next_one"]) (sc := defScope st_are_ascending) (by decide +kernel)) (fun _ _ _ _ _ => (pg_tup (n := 2) rfl (pgs_cons (pg_name (i := 1) sc_are_ascending.nd rfl (Or.inl rfl)) (pgs_cons (pg_name (i := 2) sc_are_ascending.nd rfl (Or.inl rfl)) pgs_nil)))) (fun _ _ _ _ _ => pts_nil) (fun _ _ _ _ _ => (pe_cmpR op_lt_str (pv 1) (pv 2) (nomark _)))) pa_nil)))), ?_⟩
  refine s_ret (ev_is (ev_all (H0 := H) (bs := ((l.map PyData.str).zip ((l.drop 1).map PyData.str)).map fun _ => true) ?_) (by rw [all_true _ _ (fun _ _ => rfl)])) fun H1 e => q _ H1 e rfl
  refine ((lcY (src_zipT (ds := l.map PyData.str) (es := (l.drop 1).map PyData.str) (EvP.of2 (EvP.var rfl hu) (by rw [← drop_map]; exact evP_slFrom (k := 1) (EvP.var rfl hu) ev_c))) (by rw [List.length_zip, List.length_map]; exact Nat.le_trans (Nat.min_le_left _ _) (by omega)) (fun _ => PyData.bool true) fun p hp v H' e hv => ?_).imp fun v H1 e h => ?_)
  · obtain ⟨q, hq, t, rfl, ht⟩ := pair_strs hp hv
    refine ⟨_, evG_pair ht, rfl, evP_of_bl (ev_is (ev_ltS (ev_var rfl) (ev_var rfl)) ?_)⟩
    rw [decide_eq_true (asc_zip hs q hq)]
  · rw [List.map_map]; exact h
abbrev st_is_name : Stmt := topS 7
theorem sc_is_name : FnScope ["thing", "sign"] ["thing"] (defScope st_is_name) := ⟨rfl, rfl, rfl, by decide +kernel, rfl, by decide +kernel, by decide +kernel⟩
def sp_is_name : Sp := spD (fun (s : Str) => [.str s]) nameOk (RT Str)
theorem ok_is_name {f : Addr} {fd : FuncData} (D : Df K mg "is_name" st_is_name ["thing"] f fd) (B : Bn mg) (M : Gm mg)  : C8.Cal P w K mg base 1 "is_name" sp_is_name [] := by
  refine D.cal (D.F.ok (k := 0) sc_is_name (spD_len 1 fun _ => rfl) (fun cdv A outer s H vs Q E hr h => ?_))
  obtain ⟨z, hd, ⟨h1, h8, hc⟩, q⟩ := h
  try dsimp only at hd q
  obtain ⟨u, rfl, hu⟩ := hd.one
  cases hu
  obtain ⟨tl, hl⟩ := M.letters
  obtain ⟨t8, hm8⟩ := M.most
  refine ⟨_, (pss_cons (ps_if (PW.pt (pw_or (pt_not (pt_val (pe_callB call_isi (by rfl) B.isi boot_isinstance (pa_cons (pv 0) (pa_cons (pe_bltn (v := .ty "str") (by rfl) B.str (by decide +kernel) rfl) pa_nil))))) (pw_or (pt_cmpR op_lt (pe_callB call_len_str (by rfl) B.len boot_len (pa_cons (pv 0) pa_nil)) pe_int (nomark _)) (pw_or1 (pt_cmpR op_gt (pe_callB call_len_str (by rfl) B.len boot_len (pa_cons (pv 0) pa_nil)) (pe_glob (v := .int 8) (by rfl) hm8 ⟨_, rfl⟩) (nomark _)))))) (pss_one (ps_ret pe_bl)) pss_nil) (pss_one (ps_ret (pe_callB (cr_all rfl) (by rfl) B.all (by decide +kernel) (pa_cons (pe_lc (own := [("sign", 1)]) (g := (gName 1)) (tt := tYes) (te := (tOp rSign (tVar 1) (tC (.str letters)))) rfl sc_is_name.nd (pi_str (pv 0)) (blkOk_by (N := ["thing", "sign"]) (sc := defScope st_is_name) (by decide +kernel)) (fun _ _ _ _ _ => (pg_name (i := 1) sc_is_name.nd rfl (Or.inl rfl))) (fun _ _ _ _ _ => pts_nil) (fun _ _ _ _ _ => (pe_cmpR op_in_sign (pv 1) (pe_glob (v := .str letters) (by rfl) hl ⟨_, rfl⟩) (by rfl)))) pa_nil))))), ?_⟩
  refine q_skip (et_is (et_or (et_not (et_B (ev_isiS (ev_var rfl)))) fun _ => et_or (et_test (ev_lt (ev_lenStr (ev_var rfl) (by omega)) ev_c)) fun _ => et_test (ev_gt (ev_lenStr (ev_var rfl) (by omega)) ev_c)) (by
    rw [decide_eq_false (by omega), decide_eq_false (by omega)]; rfl)) fun H1 e1 => ?_
  refine s_ret (ev_is (ev_all (H0 := H) (bs := z.cps.toList.map fun _ => true) ?_) (by rw [all_true _ _ (fun _ _ => rfl)])) fun H2 e2 => q _ H2 (e1.trans e2) rfl
  refine ((lcY (src_str (ev_var rfl)) (by rw [← strS_len]; omega) (fun _ => PyData.bool true) fun c hc' v H' e hv => ⟨_, evG_name, rfl, ?_⟩).imp fun v H1 e h => ?_)
  · subst hv
    refine evP_of_bl (ev_is (ev_sign (ev_var rfl)) ?_)
    rw [decide_eq_true (hc c hc')]
  · rw [List.map_map]
    obtain ⟨p, ys, rfl, h1, h2, h3⟩ := h
    exact ⟨p, ys, rfl, fresh_back e1 h1, h2, h3⟩
abbrev st_are_names : Stmt := topS 8
theorem sc_are_names : FnScope ["thing", "one"] ["thing"] (defScope st_are_names) := ⟨rfl, rfl, rfl, by decide +kernel, rfl, by decide +kernel, by decide +kernel⟩
def sp_are_names : Sp := spD (fun (l : List Str) => [dLot l]) (fun l => l.length ≤ 1000 ∧ (∀ x ∈ l, nameOk x) ∧ l.Pairwise ltS) (RT (List Str))
theorem ok_are_names {f : Addr} {fd : FuncData} (D : Df K mg "are_names" st_are_names ["thing"] f fd) (B : Bn mg)  (c_is_name : C8.Cal P w K mg base 1 "is_name" sp_is_name []) (c_are_ascending : C8.Cal P w K mg base 1 "are_ascending" sp_are_ascending []) : C8.Cal P w K mg base 2 "are_names" sp_are_names [] := by
  refine D.cal (D.F.ok (k := 1) sc_are_names (spD_len 1 fun _ => rfl) (fun cdv A outer s H vs Q E hr h => ?_))
  obtain ⟨l, hd, ⟨hl, hn, hs⟩, q⟩ := h
  try dsimp only at hd q
  obtain ⟨u, rfl, hu⟩ := hd.one
  obtain ⟨a, rfl, ha⟩ := den_lot.mp hu
  have hl : l.length ≤ 1000 := hl
  refine ⟨_, (pss_one (ps_ret (pe_and (pe_callB call_isi (by rfl) B.isi boot_isinstance (pa_cons (pv 0) (pa_cons (pe_bltn (v := .ty "tuple") (by rfl) B.tuple (by decide +kernel) rfl) pa_nil))) (pe_and (pe_callB (cr_all rfl) (by rfl) B.all (by decide +kernel) (pa_cons (pe_lc (own := [("one", 1)]) (g := (gName 1)) (tt := tYes) (te := (tCall sp_is_name [] E0 (tCons (tVar 1) tNil))) rfl sc_are_names.nd (pi_tup (pv 0)) (blkOk_by (N := ["thing", "one"]) (sc := defScope st_are_names) (by decide +kernel)) (fun _ _ _ _ _ => (pg_name (i := 1) sc_are_names.nd rfl (Or.inl rfl))) (fun _ _ _ _ _ => pts_nil) (fun _ _ _ _ _ => (C8.pe_c c_is_name hr (by decide) (by rfl) (pa_cons (pv 1) pa_nil)))) pa_nil)) (pe_one (C8.pe_c c_are_ascending hr (by decide) (by rfl) (pa_cons (pv 0) pa_nil))))))), ?_⟩
  refine s_ret (ev_andV (a := true) (b := true) (ev_isiT (ev_var rfl) ha) fun _ => ev_andV (a := true) (b := true) ?_ fun _ => ev_callT l (EvP.of1 (ev_var rfl) hu) ⟨hl, hs⟩) fun H1 e => q _ H1 e rfl
  refine ev_is (ev_all (H0 := H) (bs := l.map fun _ => true) ?_) (by rw [all_true _ _ (fun _ _ => rfl)])
  refine ((lcY (src_lot (ev_var rfl) ha) (by omega) (fun _ => PyData.bool true) fun x hx v H' e hv => ⟨_, evG_name, rfl, ?_⟩).imp fun v H1 e h => ?_)
  · subst hv
    exact evP_of_bl (ev_callT x (EvP.of1 (ev_var rfl) (.str x)) (hn x hx))
  · rw [List.map_map]; exact h
abbrev st_is_towers : Stmt := topS 9
theorem sc_is_towers : FnScope ["thing"] ["thing"] (defScope st_is_towers) := ⟨rfl, rfl, rfl, by decide +kernel, rfl, by decide +kernel, by decide +kernel⟩
def sp_is_towers : Sp := spD (fun (l : List Str) => [dLot l]) (fun l => l.length ≤ 1000 ∧ (∀ x ∈ l, nameOk x) ∧ l.Pairwise ltS ∧ l ≠ []) (RT (List Str))
theorem ok_is_towers {f : Addr} {fd : FuncData} (D : Df K mg "is_towers" st_is_towers ["thing"] f fd) (B : Bn mg)  (c_are_names : C8.Cal P w K mg base 2 "are_names" sp_are_names []) : C8.Cal P w K mg base 3 "is_towers" sp_is_towers [] := by
  refine D.cal (D.F.ok (k := 2) sc_is_towers (spD_len 1 fun _ => rfl) (fun cdv A outer s H vs Q E hr h => ?_))
  obtain ⟨l, hd, ⟨hl, hn, hs, h0⟩, q⟩ := h
  try dsimp only at hd q
  obtain ⟨u, rfl, hu⟩ := hd.one
  refine ⟨_, (pss_one (ps_ret (pe_and (C8.pe_c c_are_names hr (by decide) (by rfl) (pa_cons (pv 0) pa_nil)) (pe_one (pe_cmpR op_gt (pe_callB call_len_seq (by rfl) B.len boot_len (pa_cons (pv 0) pa_nil)) pe_int (nomark _)))))), ?_⟩
  refine s_ret (ev_andV (a := true) (b := true) (ev_callT l (EvP.of1 (ev_var rfl) hu) ⟨hl, hn, hs⟩) fun _ => ev_is (ev_gt (ev_lenP (EvP.var rfl hu)) ev_c) ?_) fun H1 e => q _ H1 e rfl
  have : 0 < l.length := List.length_pos_iff.mpr h0
  rw [decide_eq_true (by rw [List.length_map]; omega)]
end
end Nh

namespace Nh
open PySem PySem.Spec PyProof.Rows L2 Evl
section
variable {P : Program} {w : World} {K : PySem.W.Frag} {mg : Str → Option Value} {base : Heap}

/-- a lot of fears, as the program wants it -/
structure LotOk (T l : List Str) : Prop where
  len : l.length ≤ 5
  nm : ∀ x ∈ l, nameOk x
  asc : l.Pairwise ltS
  mem : ∀ x ∈ l, x ∈ T
structure TownOk (T : List Str) (E : List Wr) : Prop where
  ne : T ≠ []
  len : T.length ≤ 5
  nm : ∀ x ∈ T, nameOk x
  asc : T.Pairwise ltS
  elen : E.length ≤ 10
  w : ∀ e ∈ E, e.a ∈ T ∧ e.b ∈ T ∧ ltS e.a e.b ∧ e.lo ≤ e.hi
  ord : ∀ k e f, E[k]? = some e → E[k + 1]? = some f → ltL [e.a, e.b] [f.a, f.b] = true
structure FearsOk (T : List Str) (F : List (List Str)) : Prop where
  ne : F ≠ []
  len : F.length ≤ 5
  lots : ∀ l ∈ F, LotOk T l
  ord : ∀ k l m, F[k]? = some l → F[k + 1]? = some m → ltL l m = true
theorem ev_isiP {te : TE} {σ : L2.St} {H : Hp} {ds : List PyData} (h : EvP te σ H (Da (.tuple ds))) : Ev (tCB (rIsi K) (tCons te (tCons (tC (.ty "tuple")) tNil))) σ H (.bl true) := fun H1 e Q q =>
  h H1 e _ fun v H2 e2 p => by
    obtain ⟨a, xs, rfl, ha, hd⟩ := Den.tuple p
    exact ⟨.ref a, .ty "tuple", .type "tuple", .type "tuple", true, rfl, .ty _, .base (.tup ha), kit_ty (by decide +kernel), q H2 e2⟩
theorem ead3 {te tf tg : TE} {σ : L2.St} {H : Hp} {d d' d2 : PyData} (h : EvP te σ H (Da d)) (h' : EvP tf σ H (Da d')) (h2 : EvP tg σ H (Da d2)) : EvAD (tCons te (tCons tf (tCons tg tNil))) σ H [d, d', d2] := ead_cons h (ead_cons h' (ead_cons h2 ead_nil))
theorem ead1 {te : TE} {σ : L2.St} {H : Hp} {d : PyData} (h : EvP te σ H (Da d)) : EvAD (tCons te tNil) σ H [d] := ead_cons h ead_nil
theorem q_ifF {t : TT} {σ : L2.St} {H : Hp} {tu tw : TS} {D : Ends} (h : EvT t σ H false) (k : ∀ H1, Ex H H1 → tw D σ H1) : tIfS t tu tw D σ H := s_if h (fun z => nomatch z) (fun _ => k)
theorem q_ifT {t : TT} {σ : L2.St} {H : Hp} {tu tw : TS} {D : Ends} (h : EvT t σ H true) (k : ∀ H1, Ex H H1 → tu D σ H1) : tIfS t tu tw D σ H := s_if h (fun _ => k) (fun z => nomatch z)
theorem mapGet {α β : Type} (f : α → β) {l : List α} {k : Nat} {a : α} (h : l[k]? = some a) : (l.map f)[k]? = some (f a) := by rw [List.getElem?_map, h]; rfl
abbrev st_is_wire_for : Stmt := topS 15
theorem sc_is_wire_for : FnScope ["towers", "thing"] ["towers", "thing"] (defScope st_is_wire_for) := ⟨rfl, rfl, rfl, by decide +kernel, rfl, by decide +kernel, by decide +kernel⟩
def sp_is_wire_for : Sp := spD (fun (i : List Str × Wr) => [dLot i.1, dWire i.2]) (fun i => i.2.a ∈ i.1 ∧ i.2.b ∈ i.1 ∧ ltS i.2.a i.2.b) (RT _)
theorem ok_is_wire_for {f : Addr} {fd : FuncData} (D : Df K mg "is_wire_for" st_is_wire_for ["towers", "thing"] f fd) (B : Bn mg)  (c_is_tuple_of : C8.Cal P w K mg base 1 "is_tuple_of" sp_is_tuple_of []) (c_are_integers : C8.Cal P w K mg base 2 "are_integers" sp_are_integers []) : C8.Cal P w K mg base 3 "is_wire_for" sp_is_wire_for [] := by
  refine D.cal (D.F.ok (k := 2) sc_is_wire_for (spD_len 2 fun _ => rfl) (fun cdv A outer s H vs Q E hr h => ?_))
  obtain ⟨⟨T, ⟨ea, eb, lo, hi⟩⟩, hd, ⟨h1, h2, h3⟩, q⟩ := h
  try dsimp only at hd q
  obtain ⟨u, v, rfl, hu, hv⟩ := hd.two
  have hv : Den H v (.tuple [.str ea, .str eb, .int lo, .int hi]) := hv
  refine ⟨_, (pss_cons (ps_if (PW.pt (pw_or (pt_not (pt_val (C8.pe_c c_is_tuple_of hr (by decide) (by rfl) (pa_cons (pv 1) (pa_cons pe_int pa_nil))))) (pw_or1 (pt_not (pt_val (C8.pe_c c_are_integers hr (by decide) (by rfl) (pa_cons (pe_slice sl_tupA (pv 1) (po_some pe_int) po_none) (pa_cons pe_int pa_nil)))))))) (pss_one (ps_ret pe_bl)) pss_nil) (pss_cons (ps_if (PW.pt (pw_or (pt_not (pt_val (pe_callB call_isi (by rfl) B.isi boot_isinstance (pa_cons (pe_ix ix_tup (pv 1) pe_int (fun _ _ => rfl)) (pa_cons (pe_bltn (v := .ty "str") (by rfl) B.str (by decide +kernel) rfl) pa_nil))))) (pw_or1 (pt_not (pt_val (pe_callB call_isi (by rfl) B.isi boot_isinstance (pa_cons (pe_ix ix_tup (pv 1) pe_int (fun _ _ => rfl)) (pa_cons (pe_bltn (v := .ty "str") (by rfl) B.str (by decide +kernel) rfl) pa_nil)))))))) (pss_one (ps_ret pe_bl)) pss_nil) (pss_one (ps_ret (pe_and (pe_cmpR op_in_seq (pe_ix ix_tup (pv 1) pe_int (fun _ _ => rfl)) (pv 0) (by rfl)) (pe_and (pe_cmpR op_in_seq (pe_ix ix_tup (pv 1) pe_int (fun _ _ => rfl)) (pv 0) (by rfl)) (pe_one (pe_cmpR op_lt_str (pe_ix ix_tup (pv 1) pe_int (fun _ _ => rfl)) (pe_ix ix_tup (pv 1) pe_int (fun _ _ => rfl)) (nomark _))))))))), ?_⟩
  refine q_skip (et_is (et_or (et_not (et_B (ev_callB (b := fun i : List PyData × Int => decide ((i.1.length : Int) = i.2)) ([.str ea, .str eb, .int lo, .int hi], 4) (EvP.of2 (EvP.var rfl hv) evP_c_int) trivial))) fun _ => et_not (et_B (ev_callT ([lo, hi] : List Int) (EvP.of2 (evP_slFrom (k := 2) (EvP.var rfl hv) ev_c) evP_c_int) (show 2 ≤ 1000 by decide)))) rfl) fun H1 e1 => ?_
  have hv1 := hv.ex e1
  refine q_skip (et_is (et_or (et_not (et_B (ev_isiS (EvP.str (evP_ix (i := 0) (EvP.var rfl hv1) ev_c rfl))))) fun _ => et_not (et_B (ev_isiS (EvP.str (evP_ix (i := 1) (EvP.var rfl hv1) ev_c rfl))))) rfl) fun H2 e2 => ?_
  have hv2 := hv1.ex e2
  have hu2 := (hu.ex e1).ex e2
  refine s_ret (ev_andV (a := true) (b := true) (ev_is (ev_inS (neg := false) (EvP.str (evP_ix (i := 0) (EvP.var rfl hv2) ev_c rfl)) (EvP.var rfl hu2)) ?_) fun _ => ev_andV (a := true) (b := true) (ev_is (ev_inS (neg := false) (EvP.str (evP_ix (i := 1) (EvP.var rfl hv2) ev_c rfl)) (EvP.var rfl hu2)) ?_) fun _ => ev_is (ev_ltS (EvP.str (evP_ix (i := 0) (EvP.var rfl hv2) ev_c rfl)) (EvP.str (evP_ix (i := 1) (EvP.var rfl hv2) ev_c rfl))) ?_) fun H3 e3 => q _ H3 ((e1.trans e2).trans e3) rfl
  · show V.bl (decide (ea ∈ T)) = _
    rw [decide_eq_true h1]
  · show V.bl (decide (eb ∈ T)) = _
    rw [decide_eq_true h2]
  · rw [decide_eq_true h3]
abbrev st_wire_fault : Stmt := topS 16
theorem sc_wire_fault : FnScope ["towers", "wires", "k"] ["towers", "wires", "k"] (defScope st_wire_fault) := ⟨rfl, rfl, rfl, by decide +kernel, rfl, by decide +kernel, by decide +kernel⟩
def sp_wire_fault : Sp := spD (fun (i : List Str × List Wr × Nat) => [dLot i.1, .tuple (i.2.1.map dWire), .int (i.2.2 : Int)]) (fun i => TownOk i.1 i.2.1 ∧ i.2.2 < i.2.1.length) (fun _ _ v _ => v = .non)
theorem ok_wire_fault {f : Addr} {fd : FuncData} (D : Df K mg "wire_fault" st_wire_fault ["towers", "wires", "k"] f fd) (B : Bn mg)  (c_is_wire_for : C8.Cal P w K mg base 3 "is_wire_for" sp_is_wire_for []) : C8.Cal P w K mg base 4 "wire_fault" sp_wire_fault [] := by
  refine D.cal (D.F.ok (k := 3) sc_wire_fault (spD_len 3 fun _ => rfl) (fun cdv A outer s H vs Q E hr h => ?_))
  obtain ⟨⟨T, E', k⟩, hd, ⟨ok, hk⟩, q⟩ := h
  try dsimp only at hd q
  obtain ⟨u, v, x, rfl, hu, hv, hx⟩ := hd.three
  cases hx
  have hk : k < E'.length := hk
  obtain ⟨⟨ea, eb, lo, hi⟩, he⟩ : ∃ e, E'[k]? = some e := ⟨_, List.getElem?_eq_getElem hk⟩
  obtain ⟨w1, w2, w3, w4⟩ := ok.w _ (List.mem_of_getElem? he)
  have ge := mapGet dWire he
  refine ⟨_, (pss_cons (ps_if (pt_not (pt_val (C8.pe_c c_is_wire_for hr (by decide) (by rfl) (pa_cons (pv 0) (pa_cons (pe_ix ix_tup (pv 1) (pv 2) (fun _ _ => rfl)) pa_nil))))) (pss_one (ps_ret (pe_tup (pa_cons pe_str (pa_cons (pv 2) pa_nil))))) pss_nil) (pss_cons (ps_if (pt_cmpR op_gt (pe_ix ix_tup (pe_ix ix_tup (pv 1) (pv 2) (fun _ _ => rfl)) pe_int (fun _ _ => rfl)) (pe_ix ix_tup (pe_ix ix_tup (pv 1) (pv 2) (fun _ _ => rfl)) pe_int (fun _ _ => rfl)) (nomark _)) (pss_one (ps_ret (pe_tup (pa_cons pe_str (pa_cons (pv 2) pa_nil))))) pss_nil) (pss_one (ps_ret (pe_ifExp (PW.pt (pw_and (pt_cmpR op_gt (pv 2) pe_int (nomark _)) (pw_and1 (pt_cmpR (op_geS hr.units0) (pe_slice sl_tupA (pe_ix ix_tup (pv 1) (pe_op op_sub (pv 2) pe_int) (fun _ _ => rfl)) po_none (po_some pe_int)) (pe_slice sl_tupA (pe_ix ix_tup (pv 1) (pv 2) (fun _ _ => rfl)) po_none (po_some pe_int)) (nomark _))))) (pe_tup (pa_cons pe_str (pa_cons (pv 2) pa_nil))) pe_non))))), ?_⟩
  refine q_skip (et_is (et_not (et_B (ev_callT (T, (⟨ea, eb, lo, hi⟩ : Wr)) (EvP.of2 (EvP.var rfl hu) (evP_ix (i := k) (EvP.var rfl hv) (ev_var rfl) ge)) ⟨w1, w2, w3⟩))) rfl) fun H1 e1 => ?_
  have hv1 := hv.ex e1
  refine q_skip (et_is (et_test (ev_gt (EvP.int (evP_ix (i := 2) (evP_ix (i := k) (EvP.var rfl hv1) (ev_var rfl) ge) ev_c rfl)) (EvP.int (evP_ix (i := 3) (evP_ix (i := k) (EvP.var rfl hv1) (ev_var rfl) ge) ev_c rfl)))) ?_) fun H2 e2 => ?_
  · exact decide_eq_false (by show ¬ hi < lo; have : lo ≤ hi := w4; omega)
  have hv2 := hv1.ex e2
  refine s_ret (ev_if (b := false) (et_is (et_and (et_test (ev_gt (ev_var rfl) ev_c)) (b := false) fun hk0 => ?_) (Bool.and_false _)) (fun z => nomatch z) fun _ => ev_c) fun H3 e3 => q _ H3 ((e1.trans e2).trans e3) rfl
  have hk0 : (0 : Int) < (k : Int) := of_decide_eq_true hk0
  obtain ⟨k, rfl⟩ : ∃ k', k = k' + 1 := ⟨k - 1, by omega⟩
  obtain ⟨⟨fa, fb, flo, fhi⟩, hf⟩ : ∃ e, E'[k]? = some e := ⟨_, List.getElem?_eq_getElem (by have : k + 1 < E'.length := hk; omega)⟩
  have gf := mapGet dWire hf
  refine et_is (et_test (ev_geS (p := [fa, fb]) (q := [ea, eb]) (evP_slTo (k := 2) (evP_ix (i := k) (EvP.var rfl hv2) (ev_is (ev_sub (ev_var rfl) ev_c) ?_) gf) ev_c) (evP_slTo (k := 2) (evP_ix (i := k + 1) (EvP.var rfl hv2) (ev_var rfl) ge) ev_c))) ?_
  · show V.int (((k + 1 : Nat) : Int) - 1) = V.int (k : Int)
    congr 1; omega
  · rw [ok.ord k _ _ hf he]; rfl
abbrev st_town_fault : Stmt := topS 17
theorem sc_town_fault : FnScope ["thing", "k", "fault"] ["thing"] (defScope st_town_fault) := ⟨rfl, rfl, rfl, by decide +kernel, rfl, by decide +kernel, by decide +kernel⟩
def sp_town_fault : Sp := spD (fun (i : List Str × List Wr) => [dTown i.1 i.2]) (fun i => TownOk i.1 i.2) (fun _ _ v _ => v = .non)
theorem ok_town_fault {f : Addr} {fd : FuncData} (D : Df K mg "town_fault" st_town_fault ["thing"] f fd) (B : Bn mg)  (c_is_tuple_of : C8.Cal P w K mg base 1 "is_tuple_of" sp_is_tuple_of []) (c_is_towers : C8.Cal P w K mg base 3 "is_towers" sp_is_towers []) (c_wire_fault : C8.Cal P w K mg base 4 "wire_fault" sp_wire_fault []) : C8.Cal P w K mg base 5 "town_fault" sp_town_fault [] := by
  refine D.cal (D.F.ok (k := 4) sc_town_fault (spD_len 1 fun _ => rfl) (fun cdv A outer s H vs Q E hr h => ?_))
  obtain ⟨⟨T, E'⟩, hd, ok, q⟩ := h
  try dsimp only at hd q
  have ok : TownOk T E' := ok
  obtain ⟨u, rfl, hu⟩ := hd.one
  have hu : Den H u (.tuple [dLot T, .tuple (E'.map dWire)]) := hu
  have hE := ok.elen
  refine ⟨_, (pss_cons (ps_if (pt_not (pt_val (C8.pe_c c_is_tuple_of hr (by decide) (by rfl) (pa_cons (pv 0) (pa_cons pe_int pa_nil))))) (pss_one (ps_ret (pe_tup (pa_cons pe_str (pa_cons (pe_un un_neg pe_int) pa_nil))))) pss_nil) (pss_cons (ps_if (pt_not (pt_val (C8.pe_c c_is_towers hr (by decide) (by rfl) (pa_cons (pe_ix ix_tup (pv 0) pe_int (fun _ _ => rfl)) pa_nil)))) (pss_one (ps_ret (pe_tup (pa_cons pe_str (pa_cons (pe_un un_neg pe_int) pa_nil))))) pss_nil) (pss_cons (ps_if (pt_not (pt_val (pe_callB call_isi (by rfl) B.isi boot_isinstance (pa_cons (pe_ix ix_tup (pv 0) pe_int (fun _ _ => rfl)) (pa_cons (pe_bltn (v := .ty "tuple") (by rfl) B.tuple (by decide +kernel) rfl) pa_nil))))) (pss_one (ps_ret (pe_tup (pa_cons pe_str (pa_cons (pe_un un_neg pe_int) pa_nil))))) pss_nil) (pss_cons (ps_for PassesOwn.never rfl (pi_range1 (by rfl) B.range (pa_cons (pe_callB call_len_seq (by rfl) B.len boot_len (pa_cons (pe_ix ix_tup (pv 0) pe_int (fun _ _ => rfl)) pa_nil)) pa_nil)) (pg_name (i := 1) sc_town_fault.nd rfl (Or.inl rfl)) (pss_cons (ps_asg (C8.pe_c c_wire_fault hr (by decide) (by rfl) (pa_cons (pe_ix ix_tup (pv 0) pe_int (fun _ _ => rfl)) (pa_cons (pe_ix ix_tup (pv 0) pe_int (fun _ _ => rfl)) (pa_cons (pv 1) pa_nil)))) (pg_name (i := 2) sc_town_fault.nd rfl (Or.inl rfl))) (pss_one (ps_if (pt_cmpR op_notN (pv 2) pe_non (nomark _)) (pss_one (ps_ret (pv 2))) pss_nil)))) (pss_one (ps_ret pe_non)))))), ?_⟩
  refine q_skip (et_is (et_not (et_B (ev_callB (b := fun i : List PyData × Int => decide ((i.1.length : Int) = i.2)) ([dLot T, .tuple (E'.map dWire)], 2) (EvP.of2 (EvP.var rfl hu) evP_c_int) trivial))) rfl) fun H1 e1 => ?_
  refine q_skip (et_is (et_not (et_B (ev_callT T (ead1 (evP_ix (i := 0) (EvP.var rfl (hu.ex e1)) ev_c rfl)) ⟨by have := ok.len; omega, ok.nm, ok.asc, ok.ne⟩))) rfl) fun H2 e2 => ?_
  refine q_skip (et_is (et_not (et_B (ev_isiP (evP_ix (i := 1) (EvP.var rfl ((hu.ex e1).ex e2)) ev_c rfl)))) rfl) fun H3 e3 => ?_
  have e03 := (e1.trans e2).trans e3
  refine s_forS (D := { nx := fun σ1 H1 => (tRet (tC .non)) { nx := fun _ H' => Q .non H', rt := Q } σ1 H1, rt := Q }) (src_range (n := E'.length) (H := H3) (fun Hx ex Qx qx => ev_lenP (evP_ix (i := 1) (EvP.var rfl (hu.ex (e03.trans ex))) ev_c rfl) Hx (Ex.refl Hx) _ fun H4 e4 => by rw [List.length_map]; exact qx H4 e4) (by omega)) (fun H2 _ σ' H' => Ex H2 H' ∧ ∃ a b, σ' = [some u, a, b]) (fun H4 e4 => ⟨Ex.refl _, _, _, rfl⟩) (fun _ _ _ _ _ p => p.1) ?_ ?_
  · rintro Hs es i a ha x σ' H0 H' ⟨p, c, d, rfl⟩ e0 rfl
    obtain ⟨hi, rfl⟩ : a < E'.length ∧ i = a := by
      obtain ⟨h1, h2⟩ := List.getElem?_eq_some_iff.mp ha
      rw [List.length_range] at h1
      rw [List.getElem_range] at h2
      exact ⟨h2 ▸ h1, h2⟩
    have ee := ((e03.trans es).trans p).trans e0
    have hu' := hu.ex ee
    refine evG_name (σ := [some u, c, d]) H' (Ex.refl _) _ fun H4 e4 => ?_
    have hu4 := hu'.ex e4
    refine q_asgP (P := fun v _ => v = .non) (evP_callR (T, E', i) (ead3 (evP_ix (i := 0) (EvP.var rfl hu4) ev_c rfl) (evP_ix (i := 1) (EvP.var rfl hu4) ev_c rfl) (evP_of_int (ev_var rfl))) ⟨ok, hi⟩ fun _ _ _ _ _ h => h) ?_
    rintro v H5 e5 rfl
    refine q_ifF (et_test (ev_notNone (v := .non) (ev_var rfl))) fun H6 e6 => ⟨((p.trans e0).trans e4).trans (e5.trans e6), _, _, rfl⟩
  · rintro Hs es σ' H' ⟨p, c, d, rfl⟩
    exact s_ret (σ := [some u, c, d]) (D := { nx := fun _ H' => Q .non H', rt := Q }) ev_c fun H5 e5 => q _ H5 (((e03.trans es).trans p).trans e5) rfl
abbrev st_is_tower_of : Stmt := topS 18
theorem sc_is_tower_of : FnScope ["town", "thing"] ["town", "thing"] (defScope st_is_tower_of) := ⟨rfl, rfl, rfl, by decide +kernel, rfl, by decide +kernel, by decide +kernel⟩
def sp_is_tower_of : Sp := spD (fun (i : List Str × List Wr × Str) => [dTown i.1 i.2.1, .str i.2.2]) (fun i => i.2.2 ∈ i.1) (RT _)
theorem ok_is_tower_of {f : Addr} {fd : FuncData} (D : Df K mg "is_tower_of" st_is_tower_of ["town", "thing"] f fd) (B : Bn mg)   : C8.Cal P w K mg base 1 "is_tower_of" sp_is_tower_of [] := by
  refine D.cal (D.F.ok (k := 0) sc_is_tower_of (spD_len 2 fun _ => rfl) (fun cdv A outer s H vs Q E hr h => ?_))
  obtain ⟨⟨T, E', x⟩, hd, hx, q⟩ := h
  try dsimp only at hd q
  obtain ⟨u, v, rfl, hu, hv⟩ := hd.two
  cases hv
  have hx : x ∈ T := hx
  have hu : Den H u (.tuple [dLot T, .tuple (E'.map dWire)]) := hu
  refine ⟨_, (pss_one (ps_ret (pe_and (pe_callB call_isi (by rfl) B.isi boot_isinstance (pa_cons (pv 1) (pa_cons (pe_bltn (v := .ty "str") (by rfl) B.str (by decide +kernel) rfl) pa_nil))) (pe_one (pe_cmpR op_in_seq (pv 1) (pe_ix ix_tup (pv 0) pe_int (fun _ _ => rfl)) (by rfl)))))), ?_⟩
  refine s_ret (ev_andV (a := true) (b := true) (ev_isiS (ev_var rfl)) fun _ => ev_is (ev_inS (neg := false) (ev_var rfl) (evP_ix (i := 0) (EvP.var rfl hu) ev_c rfl)) ?_) fun H3 e3 => q _ H3 e3 rfl
  show V.bl (decide (x ∈ T)) = _
  rw [decide_eq_true hx]
abbrev st_is_lot : Stmt := topS 22
theorem sc_is_lot : FnScope ["town", "thing", "one"] ["town", "thing"] (defScope st_is_lot) := ⟨rfl, rfl, rfl, by decide +kernel, rfl, by decide +kernel, by decide +kernel⟩
def sp_is_lot : Sp := spD (fun (i : List Str × List Wr × List Str) => [dTown i.1 i.2.1, dLot i.2.2]) (fun i => LotOk i.1 i.2.2) (RT _)
theorem ok_is_lot {f : Addr} {fd : FuncData} (D : Df K mg "is_lot" st_is_lot ["town", "thing"] f fd) (B : Bn mg)  (c_are_names : C8.Cal P w K mg base 2 "are_names" sp_are_names []) (c_is_tower_of : C8.Cal P w K mg base 1 "is_tower_of" sp_is_tower_of []) : C8.Cal P w K mg base 3 "is_lot" sp_is_lot [] := by
  refine D.cal (D.F.ok (k := 2) sc_is_lot (spD_len 2 fun _ => rfl) (fun cdv A outer s H vs Q E hr h => ?_))
  obtain ⟨⟨T, E', l⟩, hd, ok, q⟩ := h
  try dsimp only at hd q
  have ok : LotOk T l := ok
  obtain ⟨u, v, rfl, hu, hv⟩ := hd.two
  obtain ⟨a, rfl, ha⟩ := den_lot.mp hv
  have hl := ok.len
  refine ⟨_, (pss_one (ps_ret (pe_and (C8.pe_c c_are_names hr (by decide) (by rfl) (pa_cons (pv 1) pa_nil)) (pe_one (pe_callB (cr_all rfl) (by rfl) B.all (by decide +kernel) (pa_cons (pe_lc (own := [("one", 2)]) (g := (gName 2)) (tt := tYes) (te := (tCall sp_is_tower_of [] E0 (tCons (tVar 0) (tCons (tVar 2) tNil)))) rfl sc_is_lot.nd (pi_tup (pv 1)) (blkOk_by (N := ["town", "thing", "one"]) (sc := defScope st_is_lot) (by decide +kernel)) (fun _ _ _ _ _ => (pg_name (i := 2) sc_is_lot.nd rfl (Or.inl rfl))) (fun _ _ _ _ _ => pts_nil) (fun _ _ _ _ _ => (C8.pe_c c_is_tower_of hr (by decide) (by rfl) (pa_cons (pv 0) (pa_cons (pv 2) pa_nil))))) pa_nil)))))), ?_⟩
  refine s_ret (ev_andV (a := true) (b := true) (ev_callT l (EvP.of1 (ev_var rfl) hv) ⟨by omega, ok.nm, ok.asc⟩) fun _ => ?_) fun H1 e => q _ H1 e rfl
  refine ev_is (ev_all (H0 := H) (bs := l.map fun _ => true) ?_) (by rw [all_true _ _ (fun _ _ => rfl)])
  refine ((lcY (src_lot (ev_var rfl) ha) (by omega) (fun _ => PyData.bool true) fun x hx v H' e hv => ⟨_, evG_name, rfl, ?_⟩).imp fun v H1 e h => ?_)
  · subst hv
    exact evP_of_bl (ev_callT (T, E', x) (EvP.of2 (EvP.var rfl (hu.ex e)) (evP_of_str (ev_var rfl))) (ok.mem x hx))
  · rw [List.map_map]; exact h
abbrev st_fears_fault : Stmt := topS 24
theorem sc_fears_fault : FnScope ["town", "thing", "k", "lot"] ["town", "thing"] (defScope st_fears_fault) := ⟨rfl, rfl, rfl, by decide +kernel, rfl, by decide +kernel, by decide +kernel⟩
def sp_fears_fault : Sp := spD (fun (i : List Str × List Wr × List (List Str)) => [dTown i.1 i.2.1, dFears i.2.2]) (fun i => FearsOk i.1 i.2.2) (fun _ _ v _ => v = .non)
theorem ok_fears_fault {f : Addr} {fd : FuncData} (D : Df K mg "fears_fault" st_fears_fault ["town", "thing"] f fd) (B : Bn mg)  (c_is_lot : C8.Cal P w K mg base 3 "is_lot" sp_is_lot []) : C8.Cal P w K mg base 4 "fears_fault" sp_fears_fault [] := by
  refine D.cal (D.F.ok (k := 3) sc_fears_fault (spD_len 2 fun _ => rfl) (fun cdv A outer s H vs Q E hr h => ?_))
  obtain ⟨⟨T, E', F⟩, hd, ok, q⟩ := h
  try dsimp only at hd q
  have ok : FearsOk T F := ok
  obtain ⟨u, v, rfl, hu, hv⟩ := hd.two
  have hv : Den H v (.tuple (F.map fun l => dLot l)) := hv
  have hF := ok.len
  have hF0 : 0 < F.length := List.length_pos_iff.mpr ok.ne
  refine ⟨_, (pss_cons (ps_if (PW.pt (pw_or (pt_not (pt_val (pe_callB call_isi (by rfl) B.isi boot_isinstance (pa_cons (pv 1) (pa_cons (pe_bltn (v := .ty "tuple") (by rfl) B.tuple (by decide +kernel) rfl) pa_nil))))) (pw_or1 (pt_cmpR op_eq (pe_callB call_len_seq (by rfl) B.len boot_len (pa_cons (pv 1) pa_nil)) pe_int (nomark _))))) (pss_one (ps_ret (pe_tup (pa_cons pe_str (pa_cons (pe_un un_neg pe_int) pa_nil))))) pss_nil) (pss_cons (ps_for PassesOwn.never rfl (pi_enumT (by rfl) B.enumerate (pa_cons (pv 1) pa_nil)) (pg_tup (n := 2) rfl (pgs_cons (pg_name (i := 2) sc_fears_fault.nd rfl (Or.inl rfl)) (pgs_cons (pg_name (i := 3) sc_fears_fault.nd rfl (Or.inl rfl)) pgs_nil))) (pss_cons (ps_if (pt_not (pt_val (C8.pe_c c_is_lot hr (by decide) (by rfl) (pa_cons (pv 0) (pa_cons (pv 3) pa_nil))))) (pss_one (ps_ret (pe_tup (pa_cons pe_str (pa_cons (pv 2) pa_nil))))) pss_nil) (pss_one (ps_if (PW.pt (pw_and (pt_cmpR op_gt (pv 2) pe_int (nomark _)) (pw_and1 (pt_cmpR (op_leS hr.units0) (pv 3) (pe_ix ix_tup (pv 1) (pe_op op_sub (pv 2) pe_int) (fun _ _ => rfl)) (nomark _))))) (pss_one (ps_ret (pe_tup (pa_cons pe_str (pa_cons (pv 2) pa_nil))))) pss_nil)))) (pss_one (ps_ret pe_non)))), ?_⟩
  refine q_skip (et_is (et_or (et_not (et_B (ev_isiP (EvP.var rfl hv)))) fun _ => et_test (ev_eqI (ev_lenP (EvP.var rfl hv)) ev_c)) ?_) fun H1 e1 => ?_
  · rw [decide_eq_false (by rw [List.length_map]; omega)]; rfl
  refine s_forS (D := { nx := fun σ1 H1 => (tRet (tC .non)) { nx := fun _ H' => Q .non H', rt := Q } σ1 H1, rt := Q }) (src_enumT (ds := F.map fun l => dLot l) (ead1 (EvP.var rfl (hv.ex e1)))) (fun H2 _ σ' H' => Ex H2 H' ∧ ∃ a b, σ' = [some u, some v, a, b]) (fun H4 e4 => ⟨Ex.refl _, _, _, rfl⟩) (fun _ _ _ _ _ p => p.1) ?_ ?_
  · rintro Hs es i ⟨d, j⟩ ha x σ' H0 H' ⟨p, c, d', rfl⟩ e0 hx
    rw [List.getElem?_zipIdx] at ha
    obtain ⟨l, hl, hq⟩ : ∃ l, F[i]? = some l ∧ (dLot l, i) = (d, j) := by
      rw [List.getElem?_map] at ha
      cases hl : F[i]? with
      | none => rw [hl] at ha; cases ha
      | some l => rw [hl] at ha; exact ⟨l, rfl, by simpa using ha⟩
    cases hq
    obtain ⟨t, y, z, rfl, ht, rfl, hz⟩ := hx
    have ee := ((e1.trans es).trans p).trans e0
    refine evG_pair (σ := [some u, some v, c, d']) ht H' (Ex.refl _) _ fun H4 e4 => ?_
    have e14 := ee.trans e4
    have hu4 := hu.ex e14
    have hv4 := hv.ex e14
    have hz4 : Den H4 z (dLot l) := hz.ex e4
    refine q_skip (et_is (et_not (et_B (ev_callT (T, E', l) (EvP.of2 (EvP.var rfl hu4) (EvP.var rfl hz4)) (ok.lots l (List.mem_of_getElem? hl))))) rfl) fun H5 e5 => ?_
    refine q_ifF (et_is (et_and (et_test (ev_gt (ev_var rfl) ev_c)) (b := false) fun hk0 => ?_) (Bool.and_false _)) fun H6 e6 => ⟨((p.trans e0).trans e4).trans (e5.trans e6), _, _, rfl⟩
    have hk0 : (0 : Int) < (i : Int) := of_decide_eq_true hk0
    obtain ⟨k, rfl⟩ : ∃ k', i = k' + 1 := ⟨i - 1, by omega⟩
    have hlt : k + 1 < F.length := (List.getElem?_eq_some_iff.mp hl).1
    obtain ⟨m, hm⟩ : ∃ m, F[k]? = some m := ⟨_, List.getElem?_eq_getElem (by omega)⟩
    refine et_is (et_test (ev_leS (p := l) (q := m) (EvP.var rfl (hz4.ex e5)) (evP_ix (i := k) (EvP.var rfl (hv4.ex e5)) (ev_is (ev_sub (ev_var rfl) ev_c) ?_) (mapGet (fun l => dLot l) hm)))) ?_
    · show V.int (((k + 1 : Nat) : Int) - 1) = V.int (k : Int)
      congr 1; omega
    · rw [ok.ord k _ _ hm hl]; rfl
  · rintro Hs es σ' H' ⟨p, c, d, rfl⟩
    exact s_ret (σ := [some u, some v, c, d]) (D := { nx := fun _ H' => Q .non H', rt := Q }) ev_c fun H5 e5 => q _ H5 (((e1.trans es).trans p).trans e5) rfl
abbrev st_want : Stmt := topS 20
theorem sc_want : FnScope ["is_right", "word", "at"] ["is_right", "word", "at"] (defScope st_want) := ⟨rfl, rfl, rfl, by decide +kernel, rfl, by decide +kernel, by decide +kernel⟩
def sp_want : Sp := spD (fun (x : Str) => [.bool true, .str x, .int (-1)]) (fun _ => True) (fun _ _ v _ => v = .non)
theorem ok_want {f : Addr} {fd : FuncData} (F : FunD K "want" "want" (defArgs st_want) (defBody st_want) (defScope st_want) [.int (-1)] [] f fd) (hg : mg "want" = some (.ref f)) : C8.Cal P w K mg base 1 "want" sp_want [.int (-1)] := by
  obtain ⟨ds, hv, hb⟩ := F.binds1 (ps := ["is_right", "word", "at"]) 2 0 (by simp) rfl (fun T kV doc pm an cdv ct us its h1 h2 => match us, its, h1, h2 with | [_, _], [_], _, _ => ⟨_, rfl, rfl⟩)
  refine ⟨⟨f, fd, _, ds, F.ok (k := 0) sc_want (spD_len 3 fun _ => rfl) (fun cdv A outer s H vs Q E hr h => ?_), hg, F.kp, hb, hv⟩⟩
  obtain ⟨x, hd, -, q⟩ := h
  obtain ⟨u, v, y, rfl, hu, hv, hy⟩ := hd.three
  cases hu
  refine ⟨_, (pss_one (ps_if (pt_not (pt_val (pv 0))) (pss_one ps_never) pss_nil)), ?_⟩
  exact q_ifF (et_is (et_not (et_B (b := true) (ev_var rfl))) rfl) fun H1 e1 => q _ H1 e1 rfl
theorem s_want {te : TE} {σ : L2.St} {H : Hp} {D : Ends} {x : Str} {E : XK} (h : Ev te σ H (.bl true)) (k : ∀ H1, Ex H H1 → D.nx σ H1) : tDrop (tCall sp_want [.int (-1)] E (tCons te (tCons (tC (.str x)) tNil))) D σ H :=
  h H (Ex.refl H) _ fun H1 e1 => ⟨x, .cons (.bl true) (.cons (.str x) (.cons (.int _) .nil)), trivial, fun v H2 e2 _ => k H2 (e1.trans e2)⟩
abbrev st_want_town : Stmt := topS 21
theorem sc_want_town : FnScope ["town"] ["town"] (defScope st_want_town) := ⟨rfl, rfl, rfl, by decide +kernel, rfl, by decide +kernel, by decide +kernel⟩
def sp_want_town : Sp := spD (fun (i : List Str × List Wr) => [dTown i.1 i.2]) (fun i => TownOk i.1 i.2) (fun _ _ v _ => v = .non)
theorem ok_want_town {f : Addr} {fd : FuncData} (D : Df K mg "want_town" st_want_town ["town"] f fd) (B : Bn mg)  (c_want : C8.Cal P w K mg base 1 "want" sp_want [.int (-1)]) (c_town_fault : C8.Cal P w K mg base 5 "town_fault" sp_town_fault []) : C8.Cal P w K mg base 6 "want_town" sp_want_town [] := by
  refine D.cal (D.F.ok (k := 5) sc_want_town (spD_len 1 fun _ => rfl) (fun cdv A outer s H vs Q E hr h => ?_))
  obtain ⟨⟨T, E'⟩, hd, ok, q⟩ := h
  try dsimp only at hd q
  obtain ⟨u, rfl, hu⟩ := hd.one
  refine ⟨_, (pss_one (ps_expr (C8.pe_c c_want hr (by decide) (by rfl) (pa_cons (pe_cmpR op_isN (C8.pe_c c_town_fault hr (by decide) (by rfl) (pa_cons (pv 0) pa_nil)) pe_non (nomark _)) (pa_cons pe_str pa_nil))))), ?_⟩
  refine s_want (ev_is (ev_isNone (v := .non) fun H1 e Q q => evP_callR (P := fun v _ => v = .non) (T, E') (ead1 (EvP.var rfl hu)) ok (fun _ _ _ _ _ h => h) H1 e Q fun v H2 e2 h => by rw [h]; exact q H2 e2) rfl) fun H1 e1 => q _ H1 e1 rfl
abbrev st_want_fears : Stmt := topS 25
theorem sc_want_fears : FnScope ["town", "thing"] ["town", "thing"] (defScope st_want_fears) := ⟨rfl, rfl, rfl, by decide +kernel, rfl, by decide +kernel, by decide +kernel⟩
def sp_want_fears : Sp := spD (fun (i : List Str × List Wr × List (List Str)) => [dTown i.1 i.2.1, dFears i.2.2]) (fun i => FearsOk i.1 i.2.2) (fun _ _ v _ => v = .non)
theorem ok_want_fears {f : Addr} {fd : FuncData} (D : Df K mg "want_fears" st_want_fears ["town", "thing"] f fd) (B : Bn mg)  (c_want : C8.Cal P w K mg base 1 "want" sp_want [.int (-1)]) (c_fears_fault : C8.Cal P w K mg base 4 "fears_fault" sp_fears_fault []) : C8.Cal P w K mg base 5 "want_fears" sp_want_fears [] := by
  refine D.cal (D.F.ok (k := 4) sc_want_fears (spD_len 2 fun _ => rfl) (fun cdv A outer s H vs Q E hr h => ?_))
  obtain ⟨⟨T, E', F⟩, hd, ok, q⟩ := h
  try dsimp only at hd q
  obtain ⟨u, v, rfl, hu, hv⟩ := hd.two
  refine ⟨_, (pss_one (ps_expr (C8.pe_c c_want hr (by decide) (by rfl) (pa_cons (pe_cmpR op_isN (C8.pe_c c_fears_fault hr (by decide) (by rfl) (pa_cons (pv 0) (pa_cons (pv 1) pa_nil))) pe_non (nomark _)) (pa_cons pe_str pa_nil))))), ?_⟩
  refine s_want (ev_is (ev_isNone (v := .non) fun H1 e Q q => evP_callR (P := fun v _ => v = .non) (T, E', F) (EvP.of2 (EvP.var rfl hu) (EvP.var rfl hv)) ok (fun _ _ _ _ _ h => h) H1 e Q fun v H2 e2 h => by rw [h]; exact q H2 e2) rfl) fun H1 e1 => q _ H1 e1 rfl

theorem q_callN {ι : Type} {args : ι → List PyData} {ok : ι → Prop} {ta : TA} {σ : L2.St} {H : Hp} {D : Ends} {tz : TS} {E : XK} (i : ι) (h : EvAD ta σ H (args i)) (hk : ok i) (k : ∀ H1, Ex H H1 → tz D σ H1) : tSeq (tDrop (tCall (spD args ok fun _ _ v _ => v = .non) [] E ta)) tz D σ H :=
  q_dropP (P := fun v _ => v = .non) (evP_callR i h hk fun _ _ _ _ _ h => h) fun _ H1 e _ => k H1 e
theorem s_callN {ι : Type} {args : ι → List PyData} {ok : ι → Prop} {ta : TA} {σ : L2.St} {H : Hp} {D : Ends} {E : XK} (i : ι) (h : EvAD ta σ H (args i)) (hk : ok i) (k : ∀ H1, Ex H H1 → D.nx σ H1) : tDrop (tCall (spD args ok fun _ _ v _ => v = .non) [] E ta) D σ H :=
  s_dropP (P := fun v _ => v = .non) (evP_callR i h hk fun _ _ _ _ _ h => h) fun _ H1 e _ => k H1 e
abbrev st_want_fearful : Stmt := topS 40
theorem sc_want_fearful : FnScope ["town", "fears"] ["town", "fears"] (defScope st_want_fearful) := ⟨rfl, rfl, rfl, by decide +kernel, rfl, by decide +kernel, by decide +kernel⟩
def sp_want_fearful : Sp := spD (fun (i : List Str × List Wr × List (List Str)) => [dTown i.1 i.2.1, dFears i.2.2]) (fun i => TownOk i.1 i.2.1 ∧ FearsOk i.1 i.2.2) (fun _ _ v _ => v = .non)
theorem ok_want_fearful {f : Addr} {fd : FuncData} (D : Df K mg "want_fearful" st_want_fearful ["town", "fears"] f fd) (B : Bn mg)  (c_want_town : C8.Cal P w K mg base 6 "want_town" sp_want_town []) (c_want_fears : C8.Cal P w K mg base 5 "want_fears" sp_want_fears []) : C8.Cal P w K mg base 7 "want_fearful" sp_want_fearful [] := by
  refine D.cal (D.F.ok (k := 6) sc_want_fearful (spD_len 2 fun _ => rfl) (fun cdv A outer s H vs Q E hr h => ?_))
  obtain ⟨⟨T, E', F⟩, hd, ⟨ok, ok2⟩, q⟩ := h
  try dsimp only at hd q
  obtain ⟨u, v, rfl, hu, hv⟩ := hd.two
  refine ⟨_, (pss_cons (ps_expr (C8.pe_c c_want_town hr (by decide) (by rfl) (pa_cons (pv 0) pa_nil))) (pss_one (ps_expr (C8.pe_c c_want_fears hr (by decide) (by rfl) (pa_cons (pv 0) (pa_cons (pv 1) pa_nil)))))), ?_⟩
  exact q_callN (T, E') (ead1 (EvP.var rfl hu)) ok fun H1 e1 => s_callN (T, E', F) (EvP.of2 (EvP.var rfl (hu.ex e1)) (EvP.var rfl (hv.ex e1))) ok2 fun H2 e2 => q _ H2 (e1.trans e2) rfl
end
end Nh

namespace Nh
open PySem PySem.Spec PyProof.Rows L2 Evl

/-! ### all but one object stands -/
def Exd (D : Addr) (H H' : Hp) : Prop := ∀ a o, a ≠ D → H a = some o → H' a = some o
theorem Exd.refl (D : Addr) (H : Hp) : Exd D H H := fun _ _ _ h => h
theorem Exd.trans {D : Addr} {H H1 H2 : Hp} (a : Exd D H H1) (b : Exd D H1 H2) : Exd D H H2 := fun x o n h => b x o n (a x o n h)
theorem Exd.ex {D : Addr} {H H' : Hp} (e : Ex H H') : Exd D H H' := fun a o _ h => e a o h
theorem Exd.upd {D : Addr} {H : Hp} (o : HO) : Exd D H (upd H D o) := fun a u n h => by rw [upd_ne n]; exact h
theorem Exd.tk {D : Addr} {H H' : Hp} (e : Exd D H H') (h : ∀ xs, H D ≠ some (.tup xs)) : Tk H H' := fun a xs ha => e a _ (fun z => h xs (by rw [← z]; exact ha)) ha
/-- what stands apart from an object that the base does not know -/
theorem Ex.ofExd {D : Addr} {H0 H H' : Hp} (e : Ex H0 H) (d : Exd D H H') (h : H0 D = none) : Ex H0 H' := fun a o ha => d a o (ne_of_none ha h) (e a o ha)

def SrcR {α : Type} (Rel : Hp → Hp → Prop) (wi : TI) (σ : L2.St) (H : Hp) (as : List α) (Tx : α → V → Hp → Prop) : Prop := ∀ R : It → Hp → Prop,
  (∀ J H2 (G : Hp → Prop) (Y : Nat → Hp → V → Hp → Prop), Ex H H2 → Walk J as.length G Y → (∀ H3, Rel H2 H3 → G H3) → (∀ i x H3 H4, Rel H2 H3 → Y i H3 x H4 → i < as.length → Ex H3 H4 ∧ ∃ a, as[i]? = some a ∧ Tx a x H4) → R J H2) → wi σ H R
section
variable {α : Type} {K : PySem.W.Frag} {σ : L2.St} {H H' : Hp} {te : TE} {wi : TI} {as : List α} {Tx : α → V → Hp → Prop} {D : Ends} {tb : TS} {p : Addr}
theorem Src.r (h : Src wi σ H as Tx) : SrcR Ex wi σ H as Tx := fun R q => h H (Ex.refl H) R q
theorem SrcT.r (h : SrcT wi σ H as Tx) : SrcR Tk wi σ H as Tx := fun R q => h H (Ex.refl H) R q
/-- a walk that only asks tuples to stand -/
theorem SrcT.d (h : SrcT wi σ H as Tx) {o : HO} (hp : H p = some o) (ho : ∀ xs, o ≠ .tup xs) : SrcR (Exd p) wi σ H as Tx := fun R q => h H (Ex.refl H) R fun J H2 G Y e2 w hG hY => q J H2 G Y e2 w
  (fun H3 e3 => hG H3 (e3.tk fun xs z => by rw [e2 p o hp] at z; exact ho xs (Option.some.inj z))) fun i x H3 H4 e3 => hY i x H3 H4 (e3.tk fun xs z => by rw [e2 p o hp] at z; exact ho xs (Option.some.inj z))
/-- over a new list, while the object at p may change -/
theorem srcD_new {ds : List PyData} (h : EvP te σ H (ND H ds)) {o : HO} (hp : H p = some o) (ho : ∀ xs, o ≠ .tup xs) : SrcR (Exd p) (iList K te) σ H ds (fun d x H' => Den H' x d) := fun R q =>
  h H (Ex.refl H) _ fun v H2 e2 hn => by
    obtain ⟨c, ys, rfl, hc, hcv, hd⟩ := hn
    have ne : c ≠ p := fun z => by rw [z, hp] at hc; cases hc
    have nt : ∀ xs, H2 p ≠ some (.tup xs) := fun xs z => by rw [e2 p o hp] at z; exact ho xs (Option.some.inj z)
    refine ⟨c, rfl, ⟨ys, Evl.sq_of hcv⟩, ?_⟩
    have hl := hd.len
    refine q _ H2 (fun H => SqL K H c ys) (YAt ys) e2 (hl ▸ walk_list) (fun H3 e3 => Evl.sq_of (e3 c _ ne hcv)) fun i x H3 H4 e3 y _ => ?_
    obtain ⟨rfl, y⟩ := y
    obtain ⟨d, h1, h2⟩ := hd.get y
    exact ⟨Ex.refl _, d, h1, h2.tk (e3.tk nt) _ _⟩
/-- over a list that stands apart from p -/
theorem srcD_list {c : Addr} {xs : List V} {ds : List PyData} (h : Ev te σ H (.ref c)) (hc : H c = some (.lst xs)) (hd : DenAll H xs ds) (ne : c ≠ p) (nt : ∀ xs, H p ≠ some (.tup xs)) {o : HO} (hp : H p = some o) : SrcR (Exd p) (iList K te) σ H ds (fun d x H' => Den H' x d) := fun R q =>
  h H (Ex.refl H) _ fun H2 e2 => by
    have nt : ∀ xs, H2 p ≠ some (.tup xs) := fun xs z => by rw [e2 p o hp] at z; exact nt xs (by rw [hp]; exact z)
    have hl := hd.len
    have hcv := e2 c _ hc
    refine ⟨c, rfl, ⟨xs, Evl.sq_of hcv⟩, q _ H2 (fun H => SqL K H c xs) (YAt xs) e2 (hl ▸ walk_list) (fun H3 e3 => Evl.sq_of (e3 c _ ne hcv)) fun i x H3 H4 e3 y _ => ?_⟩
    obtain ⟨rfl, y⟩ := y
    obtain ⟨d, h1, h2⟩ := hd.get y
    exact ⟨Ex.refl _, d, h1, (h2.ex e2).tk (e3.tk nt) _ _⟩
theorem SrcR.map {Rel : Hp → Hp → Prop} {β : Type} {f : β → α} {bs : List β} {Tb : β → V → Hp → Prop} (h : SrcR Rel wi σ H (bs.map f) Tx) (ht : ∀ b ∈ bs, ∀ x H', Tx (f b) x H' → Tb b x H') : SrcR Rel wi σ H bs Tb := fun R q =>
  h R fun J H2 G Y e2 w hG hY => q J H2 G Y e2 (by rw [List.length_map] at w; exact w) hG fun i x H3 H4 e3 y hi => by
    obtain ⟨e4, a, ha, t⟩ := hY i x H3 H4 e3 y (by rw [List.length_map]; exact hi)
    rw [List.getElem?_map] at ha
    cases hb : bs[i]? with
    | none => rw [hb] at ha; cases ha
    | some b =>
      rw [hb] at ha
      have eb : f b = a := Option.some.inj ha
      subst eb
      exact ⟨e4, b, rfl, ht b (List.mem_of_getElem? hb) x H4 t⟩
theorem s_forR {Rel : Hp → Hp → Prop} {g : TG} (hs : SrcR Rel wi σ H as Tx) (Pv : Hp → Nat → L2.St → Hp → Prop) (h0 : ∀ H1, Ex H H1 → Pv H1 0 σ H1) (hx : ∀ H2 i σ' H', Ex H H2 → Pv H2 i σ' H' → Rel H2 H')
    (turn : ∀ H2, Ex H H2 → ∀ i a, as[i]? = some a → ∀ x σ' H0 H', Pv H2 i σ' H0 → Ex H0 H' → Tx a x H' → g x σ' H' fun σ2 H3 => tb { D with nx := Pv H2 (i + 1), ct := Pv H2 (i + 1), bk := D.nx } σ2 H3) (hd : ∀ H2, Ex H H2 → ∀ σ' H', Pv H2 as.length σ' H' → D.nx σ' H') : tFor wi g tb D σ H :=
  hs _ fun J H2 G Y e2 w hG hY => for_it w (Pv H2) (h0 H2 e2) (fun i σ' H' _ p => hG H' (hx H2 i σ' H' e2 p)) (fun i x σ' Ha Hb hi p y => by
    obtain ⟨e3, a, ha, t⟩ := hY i x Ha Hb (hx H2 i σ' Ha e2 p) y hi
    exact turn H2 e2 i a ha x σ' Ha Hb p e3 t) (hd H2 e2)
end

/-! ### a comprehension with two fors -/
theorem take_flat {α β : Type} {as : List α} {i : Nat} {a : α} (f : α → List β) (h : as[i]? = some a) : (as.take (i + 1)).flatMap f = (as.take i).flatMap f ++ f a := by
  rw [List.take_add_one, h, List.flatMap_append]
  simp
theorem len_flat {α β : Type} (f : α → List β) (m : Nat) : ∀ (as : List α), (∀ a ∈ as, (f a).length ≤ m) → (as.flatMap f).length ≤ as.length * m
  | [], _ => Nat.zero_le _
  | a :: as, h => by
    rw [List.flatMap_cons, List.length_append, List.length_cons, Nat.succ_mul]
    have h1 := h a List.mem_cons_self
    have h2 := len_flat f m as fun b hb => h b (List.mem_cons_of_mem _ hb)
    omega
theorem lcY2 {α β : Type} {wi wi1 : TI} {g g1 : TG} {te : TE} {vs vs1 : List Nat} {σ : L2.St} {H : Hp} {as : List α} {Tx : α → V → Hp → Prop} {Ty : α → β → V → Hp → Prop} (hs : Src wi σ H as Tx) (f : α → List β) (h : α → β → PyData)
    (m : Nat) (hm : ∀ a ∈ as, (f a).length ≤ m) (hn : as.length * m + m ≤ 40000)
    (turn : ∀ a ∈ as, ∀ x H', Ex H H' → Tx a x H' → ∃ σ2, EvG g x (wipe σ vs) H' σ2 ∧ wipe σ2 vs = wipe σ vs ∧ (∀ D H3 ys, Ex H' H3 → H3 D = some (.lst ys) → SrcR (Exd D) wi1 σ2 H3 (f a) (Ty a)) ∧
      ∀ b ∈ f a, ∀ x1 H5, Tk H' H5 → Ex H H5 → Ty a b x1 H5 → ∃ σ3, EvG g1 x1 (wipe σ2 vs1) H5 σ3 ∧ wipe σ3 vs1 = wipe σ2 vs1 ∧ EvP te σ3 H5 (Da (h a b))) :
    EvP (tLc2 wi g tYes wi1 g1 tYes te vs vs1) σ H (ND H (as.flatMap fun a => (f a).map (h a))) := by
  intro H1 e Q q
  have hlen : ∀ i, ((as.take i).flatMap fun a => (f a).map (h a)).length ≤ as.length * m := fun i =>
    Nat.le_trans (len_flat (fun a => (f a).map (h a)) m (as.take i) fun a ha => by rw [List.length_map]; exact hm a (List.mem_of_mem_take ha)) (Nat.mul_le_mul_right m (by rw [List.length_take]; exact Nat.min_le_right _ _))
  refine hs H1 e _ fun J H2 G Y e2 w hG hY => fun D hD => ?_
  refine ⟨fun i mm H' => mm = as.length - i ∧ i ≤ as.length ∧ Ex H2 H' ∧ ∃ ys, H' D = some (.lst ys) ∧ DenAll H' ys ((as.take i).flatMap fun a => (f a).map (h a)), ⟨as.length, by simp, Nat.zero_le _, Ex.new hD, [], upd_same, ?_⟩, ?_⟩
  · rw [List.take_zero]; exact .nil
  rintro i mm H' ⟨rfl, hi, p1, ys, p2, p3⟩
  have hg' := hG H' p1
  by_cases hlt : i < as.length
  · refine .inr ⟨w.goes i H' hlt hg', fun H' => Ex H2 H' ∧ ∃ ys, H' D = some (.lst ys) ∧ DenAll H' ys ((as.take (i + 1)).flatMap fun a => (f a).map (h a)), fun H' p' => ⟨as.length - (i + 1), by omega, rfl, hlt, p'⟩, fun x Hb y => ?_⟩
    obtain ⟨e3, a, ha, ht⟩ := hY i x H' Hb p1 (w.yields i H' x Hb hlt hg' y) hlt
    have eb : Ex H2 Hb := p1.trans e3
    obtain ⟨σ2, k1, k2, k3, k4⟩ := turn a (List.mem_of_getElem? ha) x Hb ((e.trans e2).trans eb) ht
    have hma := hm a (List.mem_of_getElem? ha)
    refine k1 Hb (Ex.refl Hb) _ fun H4 e4 => ⟨k2, ?_⟩
    unfold tYes
    refine (if_pos rfl).mpr ?_
    have hD4 : H4 D = some (.lst ys) := e4 D _ (e3 D _ p2)
    refine k3 D H4 ys e4 hD4 _ fun J1 H6 G1 Y1 e6 w1 hG1 hY1 => ?_
    have hD6 : H6 D = some (.lst ys) := e6 D _ hD4
    have nt6 : ∀ xs, H6 D ≠ some (.tup xs) := fun xs z => by rw [hD6] at z; cases z
    have e26 : Ex H2 H6 := eb.trans (e4.trans e6)
    have d6 : DenAll H6 ys ((as.take i).flatMap fun a => (f a).map (h a)) := p3.ex ((e3.trans e4).trans e6)
    refine ⟨fun j kk H' => kk = (f a).length - j ∧ j ≤ (f a).length ∧ Exd D H6 H' ∧ ∃ zs, H' D = some (.lst zs) ∧ DenAll H' zs (((as.take i).flatMap fun a => (f a).map (h a)) ++ ((f a).take j).map (h a)), ⟨(f a).length, by simp, Nat.zero_le _, Exd.refl _ _, ys, hD6, ?_⟩, ?_⟩
    · rw [List.take_zero, List.map_nil, List.append_nil]; exact d6
    rintro j kk H7 ⟨rfl, hj, r1, zs, r2, r3⟩
    have hg1 := hG1 H7 r1
    have e27 : Ex H2 H7 := Ex.ofExd e26 r1 hD
    by_cases hlt1 : j < (f a).length
    · refine .inr ⟨w1.goes j H7 hlt1 hg1, fun H' => Exd D H6 H' ∧ ∃ zs, H' D = some (.lst zs) ∧ DenAll H' zs (((as.take i).flatMap fun a => (f a).map (h a)) ++ ((f a).take (j + 1)).map (h a)), fun H' p' => ⟨(f a).length - (j + 1), by omega, rfl, hlt1, p'⟩, fun x1 H8 y1 => ?_⟩
      obtain ⟨e8, b, hb, ht1⟩ := hY1 j x1 H7 H8 r1 (w1.yields j H7 x1 H8 hlt1 hg1 y1) hlt1
      have tk8 : Tk Hb H8 := ((Tk.ex (e4.trans e6)).trans (r1.tk nt6)).trans (Tk.ex e8)
      obtain ⟨σ3, l1, l2, l3⟩ := k4 b (List.mem_of_getElem? hb) x1 H8 tk8 ((e.trans e2).trans (e27.trans e8)) ht1
      refine l1 H8 (Ex.refl H8) _ fun H9 e9 => ⟨l2, ?_⟩
      refine (if_pos rfl).mpr ?_
      refine l3 H9 e9 _ fun v H10 e10 hv => ?_
      have e710 : Ex H7 H10 := (e8.trans e9).trans e10
      have hlz : zs.length ≤ as.length * m + m := by
        rw [r3.len, List.length_append, List.length_map, List.length_take]
        have := hlen i
        omega
      refine ⟨zs, e710 D _ r2, Evl.sz_lt (by omega), ?_, zs ++ [v], upd_same, ?_⟩
      · exact (r1.trans (Exd.ex e710)).trans (Exd.upd _)
      · have tk : Tk H10 (upd H10 D (.lst (zs ++ [v]))) := Tk.upd fun xs z => by rw [e710 D _ r2] at z; cases z
        rw [List.take_add_one, hb, Option.toList_some, List.map_append, ← List.append_assoc]
        exact ((r3.ex e710).snoc hv).tk tk _ _
    · have ej : j = (f a).length := by omega
      subst ej
      refine .inl ⟨w1.stops H7 hg1, e27, zs, r2, ?_⟩
      rw [take_flat (fun a => (f a).map (h a)) ha]
      rw [List.take_length] at r3
      exact r3
  · have ei : i = as.length := by omega
    subst ei
    refine .inl ⟨w.stops H' hg', q _ H' (e2.trans p1) ⟨D, ys, rfl, fresh_back (e.trans e2) hD, p2, ?_⟩⟩
    rw [List.take_length] at p3
    exact p3

/-! ### lists that change -/
section
variable {K : PySem.W.Frag} {σ : L2.St} {H : Hp} {ta te : TE} {D : Ends} {P : PP} {l : Addr} {xs : List V}
theorem s_appP (hl : H l = some (.lst xs)) (ha : Ev ta σ H (.ref l)) (h : EvP te σ H P) (hz : xs.length < 100000) (k : ∀ v H1, Ex H H1 → P v H1 → D.nx σ (upd H1 l (.lst (xs ++ [v])))) :
    tDrop (tBM K "list" rAppend ta (tCons te tNil)) D σ H := ha H (Ex.refl H) _ fun H1 e1 =>
  ⟨Or.inl ⟨rfl, xs, Evl.sq_of (e1 l _ hl)⟩, h H1 e1 _ fun v H2 e2 p => ⟨l, xs, v, rfl, rfl, e2 l _ (e1 l _ hl), Evl.sz_lt hz, k v H2 (e1.trans e2) p⟩⟩
theorem s_extP {ds : List PyData} {H0 : Hp} (hl : H l = some (.lst xs)) (ha : Ev ta σ H (.ref l)) (h : EvP te σ H (ND H0 ds)) (hz : xs.length + ds.length ≤ 100000) (k : ∀ ys H1, Ex H H1 → DenAll H1 ys ds → D.nx σ (upd H1 l (.lst (xs ++ ys)))) :
    tDrop (tBM K "list" rExtend ta (tCons te tNil)) D σ H := ha H (Ex.refl H) _ fun H1 e1 =>
  ⟨Or.inl ⟨rfl, xs, Evl.sq_of (e1 l _ hl)⟩, h H1 e1 _ fun v H2 e2 p => by
    obtain ⟨c, ys, rfl, _, hc, hd⟩ := p
    exact ⟨l, c, xs, ys, rfl, rfl, e2 l _ (e1 l _ hl), hc, Evl.sz_of (by rw [hd.len]; exact hz), k ys H2 (e1.trans e2) hd⟩⟩
end

/-! ### every pair, in turn -/
def twos {α : Type} (l : List α) : List (α × α) := l.zipIdx.flatMap fun p => (l.drop p.2).map fun x => (p.1, x)
theorem mem_twos {α : Type} {l : List α} {x y : α} : (x, y) ∈ twos l ↔ ∃ i j : Nat, i ≤ j ∧ l[i]? = some x ∧ l[j]? = some y := by
  unfold twos
  rw [List.mem_flatMap]
  constructor
  · rintro ⟨⟨a, k⟩, h1, h2⟩
    obtain ⟨z, hz, e⟩ := List.mem_map.mp h2
    cases e
    have h1 := List.mem_zipIdx_iff_getElem?.mp h1
    obtain ⟨j, hj⟩ := List.getElem?_of_mem hz
    rw [List.getElem?_drop] at hj
    exact ⟨k, k + j, Nat.le_add_right _ _, h1, hj⟩
  · rintro ⟨i, j, hij, h1, h2⟩
    refine ⟨(x, i), List.mem_zipIdx_iff_getElem?.mpr h1, List.mem_map.mpr ⟨y, ?_, rfl⟩⟩
    refine List.mem_of_getElem? (i := j - i) ?_
    rw [List.getElem?_drop, show i + (j - i) = j by omega]
    exact h2
theorem twos_sound {α : Type} {l : List α} {x y : α} (h : (x, y) ∈ twos l) : x ∈ l ∧ y ∈ l := by
  obtain ⟨i, j, _, h1, h2⟩ := mem_twos.mp h
  exact ⟨List.mem_of_getElem? h1, List.mem_of_getElem? h2⟩
theorem twos_full {α : Type} {l : List α} {x y : α} (hx : x ∈ l) (hy : y ∈ l) : (x, y) ∈ twos l ∨ (y, x) ∈ twos l := by
  obtain ⟨i, hi⟩ := List.getElem?_of_mem hx
  obtain ⟨j, hj⟩ := List.getElem?_of_mem hy
  rcases Nat.le_total i j with h | h
  · exact .inl (mem_twos.mpr ⟨i, j, h, hi, hj⟩)
  · exact .inr (mem_twos.mpr ⟨j, i, h, hj, hi⟩)
theorem twos_map {α β : Type} (f : α → β) (l : List α) : twos (l.map f) = (twos l).map fun p => (f p.1, f p.2) := by
  unfold twos
  rw [List.zipIdx_map, List.flatMap_map, List.map_flatMap]
  congr 1
  funext p
  rw [List.map_map, ← List.map_drop, List.map_map]
  rfl
theorem twos_len {α : Type} (l : List α) : (twos l).length ≤ l.length * l.length := by
  have := len_flat (fun p : α × Nat => (l.drop p.2).map fun x => (p.1, x)) l.length l.zipIdx fun a _ => by rw [List.length_map, List.length_drop]; omega
  rw [List.length_zipIdx] at this
  exact this
abbrev dTwo (p : PyData × PyData) : PyData := .tuple [p.1, p.2]
end Nh

/-! sorted(set([..])) of tuples of texts: what it gives -/
namespace Nh
open PySem PySem.Spec PyProof.Rows L2 Evl

abbrev Lots := List (Addr × List Str)
abbrev lhash (P : Program) (w : World) (k : List Str) : Int := tupleKeyHash (strKind P w) k
/-- the tuple at a has these texts -/
abbrev IsLot (P : Program) (w : World) (h : Heap) (k : List Str) (a : Addr) : Prop := IsTupleKey (strKind P w) h k a
def lotRows (P : Program) (w : World) (L : Lots) : List (Int × Value) := L.map fun p => (lhash P w p.2, Value.ref p.1)
/-- the set at a holds the lots of L, without the tuples themselves -/
structure LotSet0 (P : Program) (w : World) (h : Heap) (a : Addr) (L : Lots) : Prop where
  ex : ∃ (es : Array (Int × Value)) (ep : Nat) (t : SetTable), (∃ o, h.get? a = some o ∧ o.ExactSet ∧ o.data = .set es ep t) ∧ es.toList = lotRows P w L ∧ TabOk t (L.map fun p => lhash P w p.2) ∧
    (w.params.followText "set-order" = true ∨ t.led = true) ∧ L.length * 5 < t.mask * 3 ∧ L.length < 60
def LotSetO (P : Program) (w : World) (a : Addr) (L : Lots) : HO := .ext fun h => LotSet0 P w h a L
/-- L's addresses are tuples of its lots -/
def LotsAt (H : Hp) (L : Lots) : Prop := ∀ p ∈ L, H p.1 = some (.tup (p.2.map V.str))
def rSetS (P : Program) (w : World) (K : PySem.W.Frag) : List V → Hp → VK → Prop := fun xs H Q => ∃ (l : Addr) (ks : Lots), xs = [V.ref l] ∧ SqL K H l (ks.map fun p => V.ref p.1) ∧ LotsAt H ks ∧ ks.length < 60 ∧
  ∀ a L, H a = none → (∀ p ∈ L, p ∈ ks) → (∀ p ∈ ks, p.2 ∈ L.map (·.2)) → L.length ≤ ks.length → Q (.ref a) (upd H a (LotSetO P w a L))
def rSortS (P : Program) (w : World) : List V → Hp → VK → Prop := fun vs H Q => ∃ (a : Addr) (L : Lots), vs = [V.ref a] ∧ H a = some (LotSetO P w a L) ∧ LotsAt H L ∧
  ∀ (L' : Lots) (p : Addr), L'.Perm L → H p = none → Q (.ref p) (upd H p (.lst (L'.map fun q => V.ref q.1)))
theorem LotsAt.ex {H H' : Hp} {L : Lots} (h : LotsAt H L) (e : Ex H H') : LotsAt H' L := fun p hp => e _ _ (h p hp)
/-- a list of lots, by address -/
theorem lots_of {H : Hp} : ∀ {ls : List (List Str)} {vs : List V}, DenAll H vs (ls.map dLot) → ∃ ks : Lots, vs = ks.map (fun p => V.ref p.1) ∧ ks.map (·.2) = ls ∧ LotsAt H ks
  | [], _, h => by cases h; exact ⟨[], rfl, rfl, fun p hp => nomatch hp⟩
  | l :: ls, _, h => by
    cases h with
    | cons h1 h2 =>
      obtain ⟨ks, e1, e2, e3⟩ := lots_of h2
      obtain ⟨a, rfl, ha⟩ := den_lot.mp h1
      refine ⟨(a, l) :: ks, by rw [e1]; rfl, by rw [← e2]; rfl, fun p hp => ?_⟩
      rcases List.mem_cons.mp hp with rfl | hp
      · exact ha
      · exact e3 p hp
theorem lots_den {H : Hp} : ∀ {ks : Lots}, LotsAt H ks → DenAll H (ks.map fun p => V.ref p.1) ((ks.map (·.2)).map dLot)
  | [], _ => .nil
  | p :: ks, h => .cons (den_lot.mpr ⟨p.1, rfl, h p List.mem_cons_self⟩) (lots_den fun q hq => h q (List.mem_cons_of_mem _ hq))
theorem evP_sortSet {P : Program} {w : World} {K : PySem.W.Frag} {σ : L2.St} {H H0 : Hp} {te : TE} {ls : List (List Str)} (h : EvP te σ H (ND H0 (ls.map dLot))) (hl : ls.length ≤ 50) :
    EvP (tCB (rSortS P w) (tCons (tCB (rSetS P w K) (tCons te tNil)) tNil)) σ H (fun v H' => ∃ ks : List (List Str), (∀ k, k ∈ ks ↔ k ∈ ls) ∧ ks.length ≤ ls.length ∧ ND H (ks.map dLot) v H') := fun H1 e Q q =>
  h H1 e _ fun v H2 e2 hn => by
    obtain ⟨c, ys, rfl, _, hc, hd⟩ := hn
    obtain ⟨ks, rfl, rfl, at2⟩ := lots_of hd
    rw [List.length_map] at hl
    refine ⟨c, ks, rfl, Evl.sq_of hc, at2, by omega, fun a L ha sub full len => ?_⟩
    have at3 : LotsAt (upd H2 a (LotSetO P w a L)) L := fun p hp => Ex.new ha _ _ (at2 p (sub p hp))
    refine ⟨a, L, rfl, upd_same, at3, fun L' p pm hp => ?_⟩
    have e3 := Ex.new (o := LotSetO P w a L) ha
    refine q _ _ ((e2.trans e3).trans (Ex.new hp)) ⟨L'.map (·.2), fun k => ?_, ?_, p, _, rfl, fresh_back ((e.trans e2).trans e3) hp, upd_same, ?_⟩
    · constructor
      · intro hk
        obtain ⟨x, hx, rfl⟩ := List.mem_map.mp hk
        exact List.mem_map.mpr ⟨x, sub x (pm.mem_iff.mp hx), rfl⟩
      · intro hk
        obtain ⟨x, hx, rfl⟩ := List.mem_map.mp hk
        obtain ⟨y, hy, e⟩ := List.mem_map.mp (full x hx)
        exact List.mem_map.mpr ⟨y, pm.mem_iff.mpr hy, e⟩
    · rw [List.length_map, List.length_map, pm.length_eq]; exact len
    · exact lots_den fun q hq => Ex.new hp _ _ (at3 q (pm.mem_iff.mp hq))
end Nh

namespace Nh
open PySem PySem.Spec PyProof.Rows L2 Evl
section
variable {P : Program} {w : World} {K : PySem.W.Frag} {mg : Str → Option Value} {base : Heap}

abbrev sp_lot_less : Sp := spLotLess
abbrev dChoice (c : List Str × List Str × Str × Str) : PyData := .tuple [dLot c.1, dLot c.2.1, .str c.2.2.1, .str c.2.2.2]
/-- twos_of: of a tuple or a list -/
def sp_twos_of : Sp := fun vs H Q _ => ∃ a ds, vs = [V.ref a] ∧ ((∃ xs, H a = some (.tup xs) ∧ DenAll H xs ds) ∨ (∃ xs, H a = some (.lst xs) ∧ DenAll H xs ds)) ∧ ds.length ≤ 100 ∧ ∀ v H', Ex H H' → ND H ((twos ds).map dTwo) v H' → Q v H'
theorem sl_fromL {K : PySem.W.Frag} {σ : L2.St} {H : Hp} {te tk : TE} {k : Nat} {a : Addr} {xs : List V} {ds : List PyData} (h : Ev te σ H (.ref a)) (hk : Ev tk σ H (.int (k : Int))) (ha : H a = some (.lst xs)) (hd : DenAll H xs ds) : EvP (tSl (rSlL K) te (tPart tk) tNoPart) σ H (ND H (ds.drop k)) := fun H1 e Q q =>
  h H1 e _ fun H2 e2 => hk H2 (e.trans e2) _ fun H3 e3 => by
    have e13 := e2.trans e3
    have e03 := e.trans e13
    refine ⟨(k : Int), rfl, a, xs, rfl, Evl.sq_of (e03 a _ ha), fun p hp => q _ _ (e13.trans (Ex.new hp)) ⟨p, xs.drop k, rfl, fresh_back e03 hp, ?_, (hd.drop k).ex (e03.trans (Ex.new hp))⟩⟩
    rw [upd_same, cut_from]
theorem sl_toL {K : PySem.W.Frag} {σ : L2.St} {H : Hp} {te tk : TE} {k : Nat} {a : Addr} {xs : List V} {ds : List PyData} (h : Ev te σ H (.ref a)) (hk : Ev tk σ H (.int (k : Int))) (ha : H a = some (.lst xs)) (hd : DenAll H xs ds) : EvP (tSl (rSlL K) te tNoPart (tPart tk)) σ H (ND H (ds.take k)) := fun H1 e Q q =>
  h H1 e _ fun H2 e2 => hk H2 (e.trans e2) _ fun H3 e3 => by
    have e13 := e2.trans e3
    have e03 := e.trans e13
    refine ⟨(k : Int), rfl, a, xs, rfl, Evl.sq_of (e03 a _ ha), fun p hp => q _ _ (e13.trans (Ex.new hp)) ⟨p, xs.take k, rfl, fresh_back e03 hp, ?_, (hd.take k).ex (e03.trans (Ex.new hp))⟩⟩
    rw [upd_same, cut_to]
theorem srcT_P {K : PySem.W.Frag} {σ : L2.St} {H : Hp} {te : TE} {ds : List PyData} (h : EvP te σ H (Da (.tuple ds))) : SrcT (iTup K te) σ H ds (fun d x H' => Den H' x d) := fun H1 e R q =>
  h H1 e _ fun v H2 e2 p => by
    obtain ⟨a, xs, rfl, ha, hd⟩ := Den.tuple p
    have hl := hd.len
    refine ⟨a, rfl, ⟨xs, Evl.st_of ha⟩, q _ H2 (fun H => SqT K H a xs) (YAt xs) e2 (hl ▸ walk_tup) (fun H3 e3 => Evl.st_of (e3 a _ ha)) fun i x H3 H4 e3 y _ => ?_⟩
    obtain ⟨rfl, y⟩ := y
    obtain ⟨d, h1, h2⟩ := hd.get y
    exact ⟨Ex.refl _, d, h1, h2.tk e3 _ _⟩
theorem evP_callTwoT {σ : L2.St} {H : Hp} {te : TE} {E : XK} {ds : List PyData} (h : EvP te σ H (Da (.tuple ds))) (hn : ds.length ≤ 100) : EvP (tCall sp_twos_of [] E (tCons te tNil)) σ H (ND H ((twos ds).map dTwo)) := fun H1 e Q q =>
  h H1 e _ fun v H2 e2 p => by
    obtain ⟨a, xs, rfl, ha, hd⟩ := Den.tuple p
    refine ⟨a, ds, rfl, .inl ⟨xs, ha, hd⟩, hn, fun v H3 e3 hv => q v H3 (e2.trans e3) ?_⟩
    obtain ⟨p, ys, rfl, h1, h2, h3⟩ := hv
    exact ⟨p, ys, rfl, fresh_back (e.trans e2) h1, h2, h3⟩
theorem evP_callTwoL {σ : L2.St} {H H0 : Hp} {te : TE} {E : XK} {ds : List PyData} (h : EvP te σ H (ND H0 ds)) (hn : ds.length ≤ 100) : EvP (tCall sp_twos_of [] E (tCons te tNil)) σ H (ND H ((twos ds).map dTwo)) := fun H1 e Q q =>
  h H1 e _ fun v H2 e2 p => by
    obtain ⟨a, xs, rfl, _, ha, hd⟩ := p
    refine ⟨a, ds, rfl, .inr ⟨xs, ha, hd⟩, hn, fun v H3 e3 hv => q v H3 (e2.trans e3) ?_⟩
    obtain ⟨p, ys, rfl, h1, h2, h3⟩ := hv
    exact ⟨p, ys, rfl, fresh_back (e.trans e2) h1, h2, h3⟩
abbrev st_twos_of : Stmt := topS 29
theorem sc_twos_of : FnScope ["things", "k", "one", "late"] ["things"] (defScope st_twos_of) := ⟨rfl, rfl, rfl, by decide +kernel, rfl, by decide +kernel, by decide +kernel⟩
theorem ok_twos_of {f : Addr} {fd : FuncData} (D : Df K mg "twos_of" st_twos_of ["things"] f fd) (B : Bn mg) : C8.Cal P w K mg base 1 "twos_of" sp_twos_of [] := by
  refine D.cal (D.F.ok (k := 0) sc_twos_of (fun vs H Q E h => by obtain ⟨a, ds, rfl, _⟩ := h; rfl) (fun cdv A outer s H vs Q E hr h => ?_))
  obtain ⟨a, ds, rfl, h | h, hn, q⟩ := h
  · obtain ⟨xs, ha, hd⟩ := h
    refine ⟨_, (pss_one (ps_ret (pe_lc2 (own := [("k", 1), ("one", 2), ("late", 3)]) (vs1 := [3]) (wi1 := (iTup K (tSl (rSlA K) (tVar 0) (tPart (tVar 1)) tNoPart))) (g := (gTup K 2 (gCons (gName 1) (gCons (gName 2) gNil)))) (g1 := (gName 3)) (tt := tYes) (tt1 := tYes) (te := (tTup (tCons (tVar 2) (tCons (tVar 3) tNil)))) rfl sc_twos_of.nd (pi_enumT (by rfl) B.enumerate (pa_cons (pv 0) pa_nil)) (blkOk_by (N := ["things", "k", "one", "late"]) (sc := defScope st_twos_of) (by decide +kernel)) (by decide) (fun _ _ _ _ _ => (pg_tup (n := 2) rfl (pgs_cons (pg_name (i := 1) sc_twos_of.nd rfl (Or.inl rfl)) (pgs_cons (pg_name (i := 2) sc_twos_of.nd rfl (Or.inl rfl)) pgs_nil)))) (fun _ _ _ _ _ => pts_nil) (fun _ _ _ _ _ => (pi_tup (pe_slice sl_tupA (pv 0) (po_some (pv 1)) po_none))) (fun _ _ _ _ _ => (pg_name (i := 3) sc_twos_of.nd rfl (Or.inl rfl))) (fun _ _ _ _ _ => pts_nil) (fun _ _ _ _ _ => (pe_tup (pa_cons (pv 2) (pa_cons (pv 3) pa_nil))))))), ?_⟩
    refine s_retP (P := ND H ((twos ds).map dTwo)) (EvP.imp (lcY2 (Ty := fun _ d x H => Den H x d) (src_enumT (ds := ds) (ead1 (EvP.var rfl (.tup ha hd)))) (fun p => ds.drop p.2) (fun p d => .tuple [p.1, d]) ds.length (fun p _ => by rw [List.length_drop]; omega) (by rw [List.length_zipIdx]; have := Nat.mul_le_mul hn hn; omega) ?_) fun v H1 _ hv => ?_) fun v H1 e1 hv => q v H1 e1 hv
    · rintro ⟨d, k⟩ hm x H' e ⟨T, u, v, rfl, hT, rfl, hv⟩
      refine ⟨_, evG_pair hT, rfl, fun D H3 ys e3 hp => (srcT_P (evP_slFrom (k := k) (EvP.var rfl ((Den.tup ha hd).ex (e.trans e3))) (ev_var rfl))).d hp (fun xs z => nomatch z), fun d2 hd2 x1 H5 tk e5 hx => ⟨_, evG_name, rfl, ?_⟩⟩
      exact evP_tup (EvP.of2 (EvP.var rfl (hv.tk tk _ _)) (EvP.var rfl hx)) (show 2 ≤ 100000 by decide)
    · unfold twos
      rw [List.map_flatMap]
      simp only [List.map_map]
      exact hv
  · obtain ⟨xs, ha, hd⟩ := h
    refine ⟨_, (pss_one (ps_ret (pe_lc2 (own := [("k", 1), ("one", 2), ("late", 3)]) (vs1 := [3]) (wi1 := (iList K (tSl (rSlL K) (tVar 0) (tPart (tVar 1)) tNoPart))) (g := (gTup K 2 (gCons (gName 1) (gCons (gName 2) gNil)))) (g1 := (gName 3)) (tt := tYes) (tt1 := tYes) (te := (tTup (tCons (tVar 2) (tCons (tVar 3) tNil)))) rfl sc_twos_of.nd (pi_enum (by rfl) B.enumerate (pa_cons (pv 0) pa_nil)) (blkOk_by (N := ["things", "k", "one", "late"]) (sc := defScope st_twos_of) (by decide +kernel)) (by decide) (fun _ _ _ _ _ => (pg_tup (n := 2) rfl (pgs_cons (pg_name (i := 1) sc_twos_of.nd rfl (Or.inl rfl)) (pgs_cons (pg_name (i := 2) sc_twos_of.nd rfl (Or.inl rfl)) pgs_nil)))) (fun _ _ _ _ _ => pts_nil) (fun _ _ _ _ _ => (pi_list (pe_slice sl_list (pv 0) (po_some (pv 1)) po_none))) (fun _ _ _ _ _ => (pg_name (i := 3) sc_twos_of.nd rfl (Or.inl rfl))) (fun _ _ _ _ _ => pts_nil) (fun _ _ _ _ _ => (pe_tup (pa_cons (pv 2) (pa_cons (pv 3) pa_nil))))))), ?_⟩
    refine s_retP (P := ND H ((twos ds).map dTwo)) (EvP.imp (lcY2 (Ty := fun _ d x H => Den H x d) (src_enumL (ev_var rfl) ha hd) (fun p => ds.drop p.2) (fun p d => .tuple [p.1, d]) ds.length (fun p _ => by rw [List.length_drop]; omega) (by rw [List.length_zipIdx]; have := Nat.mul_le_mul hn hn; omega) ?_) fun v H1 _ hv => ?_) fun v H1 e1 hv => q v H1 e1 hv
    · rintro ⟨d, k⟩ hm x H' e ⟨T, u, v, rfl, hT, rfl, hv⟩
      refine ⟨_, evG_pair hT, rfl, fun D H3 ys e3 hp => srcD_new (sl_fromL (k := k) (ev_var rfl) (ev_var rfl) ((e.trans e3) a _ ha) (hd.ex (e.trans e3))) hp (fun xs z => nomatch z), fun d2 hd2 x1 H5 tk e5 hx => ⟨_, evG_name, rfl, ?_⟩⟩
      exact evP_tup (EvP.of2 (EvP.var rfl (hv.tk tk _ _)) (EvP.var rfl hx)) (show 2 ≤ 100000 by decide)
    · unfold twos
      rw [List.map_flatMap]
      simp only [List.map_map]
      exact hv
abbrev st_rest_of : Stmt := topS 31
theorem sc_rest_of : FnScope ["town", "one", "other"] ["town", "one", "other"] (defScope st_rest_of) := ⟨rfl, rfl, rfl, by decide +kernel, rfl, by decide +kernel, by decide +kernel⟩
def sp_rest_of : Sp := spD (fun (i : List Str × List Wr × List Str × List Str) => [dTown i.1 i.2.1, dLot i.2.2.1, dLot i.2.2.2]) (fun i => i.1.length ≤ 1000) (fun i _ => Da (dLot (NhM.less (NhM.less i.1 i.2.2.1) i.2.2.2)))
theorem ok_rest_of {f : Addr} {fd : FuncData} (D : Df K mg "rest_of" st_rest_of ["town", "one", "other"] f fd) (B : Bn mg)  (c_lot_less : C8.Cal P w K mg base 1 "lot_less" sp_lot_less []) : C8.Cal P w K mg base 2 "rest_of" sp_rest_of [] := by
  refine D.cal (D.F.ok (k := 1) sc_rest_of (spD_len 3 fun _ => rfl) (fun cdv A outer s H vs Q E hr h => ?_))
  obtain ⟨⟨T, E', a, b⟩, hd, hl, q⟩ := h
  try dsimp only at hd q
  obtain ⟨u, v, x, rfl, hu, hv, hx⟩ := hd.three
  have hl : T.length ≤ 1000 := hl
  have hu : Den H u (.tuple [dLot T, .tuple (E'.map dWire)]) := hu
  refine ⟨_, (pss_one (ps_ret (C8.pe_c c_lot_less hr (by decide) (by rfl) (pa_cons (C8.pe_c c_lot_less hr (by decide) (by rfl) (pa_cons (pe_ix ix_tup (pv 0) pe_int (fun _ _ => rfl)) (pa_cons (pv 1) pa_nil))) (pa_cons (pv 2) pa_nil))))), ?_⟩
  refine s_retP (evP_callD (r := fun i : List Str × List Str => dLot (NhM.less i.1 i.2)) (NhM.less T a, b) (EvP.of2 (evP_callD (r := fun i : List Str × List Str => dLot (NhM.less i.1 i.2)) (T, a) (EvP.of2 (evP_ix (i := 0) (EvP.var rfl hu) ev_c rfl) (EvP.var rfl hv)) hl) (EvP.var rfl hx)) ?_) fun v H1 e h => q v H1 e h
  exact Nat.le_trans (List.length_filter_le _ _) hl

/-- the rules of sorted(set(..)) -/
structure SetRules (P : Program) (w : World) (K : PySem.W.Frag) : Prop where
  s1 : ∀ X : Cx, X.calm = true → X.prog = P → X.w = w → X.K = K → X.A.units + 64 < cLine → CallR X (.type "set") (rSetS P w K)
  s2 : ∀ X : Cx, X.calm = true → X.prog = P → X.w = w → X.A.units + 64 < cLine → CallR X (.builtin "sorted") (rSortS P w)
/-- the choices of some pairs of towers -/
structure ChoicesFor (F : List (List Str)) (ps : List (Str × Str)) (cs : List (List Str × List Str × Str × Str)) : Prop where
  sound : ∀ c ∈ cs, ∃ p ∈ ps, p.1 ≠ p.2 ∧ ∃ a ∈ F, ∃ b ∈ F, c = (NhM.less a [p.1, p.2], NhM.less b [p.1, p.2], p.1, p.2)
  full : ∀ p ∈ ps, p.1 ≠ p.2 → ∀ a ∈ F, ∀ b ∈ F, (NhM.less a [p.1, p.2], NhM.less b [p.1, p.2], p.1, p.2) ∈ cs ∨ (NhM.less b [p.1, p.2], NhM.less a [p.1, p.2], p.1, p.2) ∈ cs
theorem ChoicesFor.nil (F : List (List Str)) : ChoicesFor F [] [] := ⟨(fun c h => nomatch h), (fun p h => nomatch h)⟩
theorem ChoicesFor.skip {F : List (List Str)} {ps : List (Str × Str)} {cs : List (List Str × List Str × Str × Str)} (C : ChoicesFor F ps cs) {x y : Str} (e : x = y) : ChoicesFor F (ps ++ [(x, y)]) cs := by
  refine ⟨fun c hc => ?_, fun p hp hne => ?_⟩
  · obtain ⟨p, hp, r⟩ := C.sound c hc
    exact ⟨p, List.mem_append_left _ hp, r⟩
  · rcases List.mem_append.mp hp with h | h
    · exact C.full p h hne
    · rw [List.mem_singleton.mp h] at hne
      exact absurd e hne
theorem ChoicesFor.more {F : List (List Str)} {ps : List (Str × Str)} {cs : List (List Str × List Str × Str × Str)} (C : ChoicesFor F ps cs) {x y : Str} (hne : x ≠ y) {ks : List (List Str)} (hk : ∀ k, k ∈ ks ↔ k ∈ F.map fun l => NhM.less l [x, y]) :
    ChoicesFor F (ps ++ [(x, y)]) (cs ++ (twos ks).map fun q => (q.1, q.2, x, y)) := by
  refine ⟨fun c hc => ?_, fun p hp hn a ha b hb => ?_⟩
  · rcases List.mem_append.mp hc with h | h
    · obtain ⟨p, hp, r⟩ := C.sound c h
      exact ⟨p, List.mem_append_left _ hp, r⟩
    · obtain ⟨⟨a, b⟩, hq, rfl⟩ := List.mem_map.mp h
      obtain ⟨h1, h2⟩ := twos_sound hq
      obtain ⟨u, hu, rfl⟩ := List.mem_map.mp ((hk a).mp h1)
      obtain ⟨v, hv, rfl⟩ := List.mem_map.mp ((hk b).mp h2)
      exact ⟨(x, y), List.mem_append_right _ (List.mem_singleton.mpr rfl), hne, u, hu, v, hv, rfl⟩
  · rcases List.mem_append.mp hp with h | h
    · rcases C.full p h hn a ha b hb with r | r
      · exact .inl (List.mem_append_left _ r)
      · exact .inr (List.mem_append_left _ r)
    · rw [List.mem_singleton.mp h]
      have h1 := (hk _).mpr (List.mem_map.mpr ⟨a, ha, rfl⟩)
      have h2 := (hk _).mpr (List.mem_map.mpr ⟨b, hb, rfl⟩)
      rcases twos_full h1 h2 with r | r
      · exact .inl (List.mem_append_right _ (List.mem_map.mpr ⟨_, r, rfl⟩))
      · exact .inr (List.mem_append_right _ (List.mem_map.mpr ⟨_, r, rfl⟩))
theorem ChoicesFor.ok {T : List Str} {F : List (List Str)} {cs : List (List Str × List Str × Str × Str)} (C : ChoicesFor F (twos T) cs) : NhM.ChoicesOk T F cs := by
  refine ⟨fun c hc => ?_, fun a ha b hb x hx y hy hne => ?_⟩
  · obtain ⟨⟨x, y⟩, hp, hne, a, ha, b, hb, rfl⟩ := C.sound c hc
    obtain ⟨h1, h2⟩ := twos_sound hp
    exact ⟨a, ha, b, hb, x, h1, y, h2, hne, rfl⟩
  · rcases twos_full hx hy with h | h
    · exact ⟨x, y, .inl ⟨rfl, rfl⟩, C.full _ h hne a ha b hb⟩
    · exact ⟨y, x, .inr ⟨rfl, rfl⟩, C.full _ h (fun z => hne z.symm) a ha b hb⟩
theorem pair_two {d : PyData} {x : V} {H : Hp} {α : Type} {f : α → PyData} {l : List α} {i : Nat} (hm : ((twos (l.map f)).map dTwo)[i]? = some d) (hx : Den H x d) : ∃ p, (twos l)[i]? = some p ∧ ∃ t u v, x = .ref t ∧ H t = some (.tup [u, v]) ∧ Den H u (f p.1) ∧ Den H v (f p.2) := by
  rw [twos_map, List.map_map, List.getElem?_map] at hm
  cases hq : (twos l)[i]? with
  | none => rw [hq] at hm; cases hm
  | some p =>
    rw [hq] at hm
    cases hm
    obtain ⟨t, xs, rfl, ht, hd⟩ := Den.tuple hx
    obtain ⟨u, v, rfl, hu, hv⟩ := hd.two
    exact ⟨p, rfl, t, u, v, rfl, ht, hu, hv⟩
theorem src_tup' {K : PySem.W.Frag} {σ : L2.St} {H : Hp} {te : TE} {ds : List PyData} (h : EvP te σ H (Da (.tuple ds))) : Src (iTup K te) σ H ds (fun d x H' => Den H' x d) := (srcT_P h).src
theorem Src.map' {β : Type} {σ : L2.St} {H : Hp} {wi : TI} {as : List PyData} {bs : List β} {f : β → PyData} (h : Src wi σ H as (fun d x H' => Den H' x d)) (e : as = bs.map f) : Src wi σ H bs (fun b x H' => Den H' x (f b)) := by
  subst e
  exact h.map fun _ _ _ _ h => h
theorem EvP.nd {σ : L2.St} {H H0 : Hp} {i : Nat} {v : V} {ds : List PyData} (h : σ[i]? = some (some v)) (hn : ND H0 ds v H) : EvP (tVar i) σ H (ND H0 ds) := EvP.of (ev_var h) fun H1 e => ND.mono e hn
theorem twos_two {α : Type} (f : α → PyData) (l : List α) : (twos (l.map f)).map dTwo = (twos l).map fun p => dTwo (f p.1, f p.2) := by
  rw [twos_map, List.map_map]; rfl
abbrev st_choices_of : Stmt := topS 30
theorem sc_choices_of : FnScope ["town", "fears", "found", "first", "last", "lots", "lot", "one", "other"] ["town", "fears"] (defScope st_choices_of) := ⟨rfl, rfl, rfl, by decide +kernel, rfl, by decide +kernel, by decide +kernel⟩
def sp_choices_of : Sp := spD (fun (i : List Str × List Wr × List (List Str)) => [dTown i.1 i.2.1, dFears i.2.2]) (fun i => TownOk i.1 i.2.1 ∧ FearsOk i.1 i.2.2) (fun i H v H' => ∃ cs, cs.length ≤ 1000 ∧ NhM.ChoicesOk i.1 i.2.2 cs ∧ ND H (cs.map dChoice) v H')
theorem ok_choices_of {f : Addr} {fd : FuncData} (D : Df K mg "choices_of" st_choices_of ["town", "fears"] f fd) (B : Bn mg) (R : SetRules P w K) (c_lot_less : C8.Cal P w K mg base 1 "lot_less" sp_lot_less []) (c_twos_of : C8.Cal P w K mg base 1 "twos_of" sp_twos_of []) : C8.Cal P w K mg base 2 "choices_of" sp_choices_of [] := by
  refine D.cal (D.F.ok (k := 1) sc_choices_of (spD_len 2 fun _ => rfl) (fun cdv A outer s H vs Q E hr h => ?_))
  obtain ⟨⟨T, E', F⟩, hd, ⟨ok, ok2⟩, q⟩ := h
  try dsimp only at hd q
  obtain ⟨u, v, rfl, hu, hv⟩ := hd.two
  have hu : Den H u (.tuple [dLot T, .tuple (E'.map dWire)]) := hu
  have hv : Den H v (.tuple (F.map fun l => dLot l)) := hv
  have ok : TownOk T E' := ok
  have ok2 : FearsOk T F := ok2
  have hT := ok.len
  have hF := ok2.len
  have hS1 := R.s1
  have hS2 := R.s2
  refine ⟨_, (pss_cons (ps_asg (pe_lst pa_nil) (pg_name (i := 2) sc_choices_of.nd rfl (Or.inl rfl))) (pss_cons (ps_for PassesOwn.never rfl (pi_list (C8.pe_c c_twos_of hr (by decide) (by rfl) (pa_cons (pe_ix ix_tup (pv 0) pe_int (fun _ _ => rfl)) pa_nil))) (pg_tup (n := 2) rfl (pgs_cons (pg_name (i := 3) sc_choices_of.nd rfl (Or.inr rfl)) (pgs_cons (pg_name (i := 4) sc_choices_of.nd rfl (Or.inr rfl)) pgs_nil))) (pss_one (ps_if (pt_cmpR op_ne (pv 3) (pv 4) (nomark _)) (pss_cons (ps_asg (pe_callB (hS2 _ rfl rfl rfl hr.units) (by rfl) B.sorted (by decide +kernel) (pa_cons (pe_callTy (hS1 _ rfl rfl rfl rfl hr.units) (by rfl) B.set (by decide +kernel) (pa_cons (pe_lc (own := [("lot", 6)]) (g := (gName 6)) (tt := tYes) (te := (tCall sp_lot_less [] E0 (tCons (tVar 6) (tCons (tTup (tCons (tVar 3) (tCons (tVar 4) tNil))) tNil)))) rfl sc_choices_of.nd (pi_tup (pv 1)) (blkOk_by (N := ["town", "fears", "found", "first", "last", "lots", "lot", "one", "other"]) (sc := defScope st_choices_of) (by decide +kernel)) (fun _ _ _ _ _ => (pg_name (i := 6) sc_choices_of.nd rfl (Or.inl rfl))) (fun _ _ _ _ _ => pts_nil) (fun _ _ _ _ _ => (C8.pe_c c_lot_less hr (by decide) (by rfl) (pa_cons (pv 6) (pa_cons (pe_tup (pa_cons (pv 3) (pa_cons (pv 4) pa_nil))) pa_nil))))) pa_nil)) pa_nil)) (pg_name (i := 5) sc_choices_of.nd rfl (Or.inl rfl))) (pss_one (ps_expr (pe_bm PySem.F.plainAttrs_list PySem.F.slot_list_extend PySem.F.type_list_extend mt_extend (pv 2) (pa_cons (pe_lc (own := [("one", 7), ("other", 8)]) (g := (gTup K 2 (gCons (gName 7) (gCons (gName 8) gNil)))) (tt := tYes) (te := (tTup (tCons (tVar 7) (tCons (tVar 8) (tCons (tVar 3) (tCons (tVar 4) tNil)))))) rfl sc_choices_of.nd (pi_list (C8.pe_c c_twos_of hr (by decide) (by rfl) (pa_cons (pv 5) pa_nil))) (blkOk_by (N := ["town", "fears", "found", "first", "last", "lots", "lot", "one", "other"]) (sc := defScope st_choices_of) (by decide +kernel)) (fun _ _ _ _ _ => (pg_tup (n := 2) rfl (pgs_cons (pg_name (i := 7) sc_choices_of.nd rfl (Or.inl rfl)) (pgs_cons (pg_name (i := 8) sc_choices_of.nd rfl (Or.inl rfl)) pgs_nil)))) (fun _ _ _ _ _ => pts_nil) (fun _ _ _ _ _ => (pe_tup (pa_cons (pv 7) (pa_cons (pv 8) (pa_cons (pv 3) (pa_cons (pv 4) pa_nil))))))) pa_nil))))) pss_nil))) (pss_one (ps_ret (pv 2))))), ?_⟩
  refine q_asgP (evP_lst ead_nil (by decide)) fun fv H1 e1 hf => ?_
  obtain ⟨p, ys, rfl, hp0, hp, hy⟩ := hf
  cases hy
  have hu1 := hu.ex e1
  have hv1 := hv.ex e1
  refine s_forR (D := { nx := fun σ1 H1 => (tRet (tVar 2)) { nx := fun _ H' => Q .non H', rt := Q } σ1 H1, rt := Q }) (srcD_new (evP_callTwoT (evP_ix (i := 0) (EvP.var rfl hu1) ev_c rfl) (by rw [List.length_map]; omega)) hp (fun xs z => nomatch z)) (fun H2 i σ' H' => Exd p H2 H' ∧ (∃ cs ys, H' p = some (.lst ys) ∧ DenAll H' ys (cs.map dChoice) ∧ ChoicesFor F ((twos T).take i) cs ∧ cs.length ≤ 25 * i) ∧ ∃ a b c, σ' = [some u, some v, some (.ref p), a, b, c, none, none, none]) (fun H2 e2 => ⟨Exd.refl _ _, ⟨[], [], e2 p _ hp, .nil, ChoicesFor.nil F, Nat.zero_le _⟩, _, _, _, rfl⟩) (fun _ _ _ _ _ p => p.1) ?_ ?_
  · rintro Hs es i d hd0 x σ' H0 H' ⟨r1, ⟨cs, ys, r2, r3, r4, r5⟩, a, b, c, rfl⟩ e0 hx
    have e01 := e1.trans es
    have nt : ∀ xs, Hs p ≠ some (.tup xs) := fun xs z => by rw [es p _ hp] at z; cases z
    have tk := (r1.tk nt).trans (Tk.ex e0)
    have hu' := (hu1.ex es).tk tk _ _
    have hv' := (hv1.ex es).tk tk _ _
    obtain ⟨⟨s, t⟩, hi, T', y, z, rfl, hT', hs, ht⟩ := pair_two hd0 hx
    cases hs
    cases ht
    have stp : (twos T).take (i + 1) = (twos T).take i ++ [(s, t)] := by rw [List.take_add_one, hi]; rfl
    refine evG_pair (σ := [some u, some v, some (.ref p), a, b, c, none, none, none]) hT' H' (Ex.refl _) _ fun H4 e4 => ?_
    have e04 := e0.trans e4
    have hp4 : H4 p = some (.lst ys) := e04 p _ r2
    refine s_if (et_test (ev_neStr (ev_var rfl) (ev_var rfl))) (fun hne H5 e5 => ?_) fun he H5 e5 => ?_
    · have hne : s ≠ t := fun z => by rw [z] at hne; simp at hne
      have hv5 := (hv'.ex e4).ex e5
      refine q_asgP (evP_sortSet (ls := F.map fun l => NhM.less l [s, t]) (H0 := H5) ((lcY ((src_tup' (EvP.var rfl hv5)).map (f := fun l => dLot l) (Tb := fun l x H => Den H x (dLot l)) fun l _ x H h => h) (by omega) (fun l => dLot (NhM.less l [s, t])) fun l hl x H6 e6 hx => ⟨_, evG_name, rfl, ?_⟩).imp fun v H6 _ h => ?_) (by rw [List.length_map]; omega)) fun lv H6 e6 hl => ?_
      · exact evP_callD (r := fun i : List Str × List Str => dLot (NhM.less i.1 i.2)) (l, [s, t]) (EvP.of2 (EvP.var rfl hx) (evP_tup (EvP.of2 (evP_of_str (ev_var rfl)) (evP_of_str (ev_var rfl))) (show 2 ≤ 100000 by decide))) (by have := (ok2.lots l hl).len; show l.length ≤ 1000; omega)
      · rw [List.map_map]; exact h
      · obtain ⟨ks, hk, hkl, hn⟩ := hl
        rw [List.length_map] at hkl
        have hk5 : ks.length * ks.length ≤ 25 := by
          have := Nat.mul_le_mul (show ks.length ≤ 5 by omega) (show ks.length ≤ 5 by omega)
          omega
        have h2 := twos_len ks
        have hil : i < (twos T).length := (List.getElem?_eq_some_iff.mp hi).1
        have h3 := twos_len T
        have h4 : T.length * T.length ≤ 25 := by
          have := Nat.mul_le_mul (show T.length ≤ 5 by omega) (show T.length ≤ 5 by omega)
          omega
        have hp6 : H6 p = some (.lst ys) := e6 p _ (e5 p _ hp4)
        refine s_extP hp6 (ev_var rfl) (lcY ((src_new (evP_callTwoL (EvP.nd rfl hn) (by rw [List.length_map]; omega))).map' (twos_two dLot ks)) (by omega) (fun p => dChoice (p.1, p.2, s, t)) fun q hq x H7 e7 hx => ?_) ?_ fun zs H7 e7 hz => ?_
        · obtain ⟨t', xs, rfl, ht', hd'⟩ := Den.tuple hx
          obtain ⟨y', z', rfl, hy', hz'⟩ := hd'.two
          exact ⟨_, evG_pair ht', rfl, evP_tup (ead_cons (EvP.var rfl hy') (ead3 (EvP.var rfl hz') (evP_of_str (ev_var rfl)) (evP_of_str (ev_var rfl)))) (show 4 ≤ 100000 by decide)⟩
        · rw [r3.len, List.length_map, List.length_map]; omega
        · have e47 := (e5.trans e6).trans e7
          have e07 := e04.trans e47
          have tk7 : Tk H7 (upd H7 p (.lst (ys ++ zs))) := Tk.upd fun xs z => by rw [e07 p _ r2] at z; cases z
          refine ⟨(r1.trans (Exd.ex e07)).trans (Exd.upd _), ⟨cs ++ (twos ks).map fun q => (q.1, q.2, s, t), _, upd_same, ?_, by rw [stp]; exact r4.more hne hk, ?_⟩, _, _, _, rfl⟩
          · rw [List.map_append, List.map_map]
            exact ((r3.ex e07).append hz).tk tk7 _ _
          · rw [List.length_append, List.length_map]; omega
    · have he : s = t := by simpa using he
      refine ⟨r1.trans (Exd.ex (e04.trans e5)), ⟨cs, ys, e5 p _ hp4, r3.ex (e04.trans e5), by rw [stp]; exact r4.skip he, by omega⟩, _, _, _, rfl⟩
  · rintro Hs es σ' H' ⟨r1, ⟨cs, ys, r2, r3, r4, r5⟩, a, b, c, rfl⟩
    rw [List.length_map, twos_map, List.length_map] at r4 r5
    rw [List.take_length] at r4
    have h3 := twos_len T
    have h4 : T.length * T.length ≤ 25 := by
      have := Nat.mul_le_mul (show T.length ≤ 5 by omega) (show T.length ≤ 5 by omega)
      omega
    have e0' : Ex H H' := Ex.ofExd (e1.trans es) r1 hp0
    refine s_ret (σ := [some u, some v, some (.ref p), a, b, c, none, none, none]) (D := { nx := fun _ H' => Q .non H', rt := Q }) (ev_var rfl) fun H5 e5 => q _ H5 (e0'.trans e5) ⟨cs, by omega, r4.ok, p, ys, rfl, hp0, e5 p _ r2, r3.ex e5⟩
end
end Nh

namespace Nh
open PySem PySem.Spec PyProof.Rows L2 Evl
section
variable {P : Program} {w : World} {K : PySem.W.Frag} {mg : Str → Option Value} {base : Heap}

def rDictP (K : PySem.W.Frag) : List V → Hp → VK → Prop := fun xs H Q => ∃ (a : Addr) (ps : List Addr) (kvs : List (Key × V)), xs = [.ref a] ∧ SqL K H a (ps.map V.ref) ∧ Paired (fun p kv => SqT K H p [kV kv.1, kv.2]) ps kvs ∧
    ∀ p, H p = none → Q (.ref p) (upd H p (.dK (mergeK [] kvs)))
def rSortD : List V → Hp → VK → Prop := fun xs H Q => ∃ (a : Addr) (kvs : List (Key × V)) (ks : List Str), xs = [.ref a] ∧ Rd H a (.dK kvs) ∧ kvs.map (·.1) = ks.map Sum.inr ∧ ks.length < 64 ∧
    ∀ ys p, ys.Perm ks → sortedS ys = true → H p = none → Q (.ref p) (upd H p (.lst (ys.map V.str)))
/-- dict([(x, y)]) -/
theorem evP_dict1 {K : PySem.W.Frag} {σ : L2.St} {H : Hp} {ta tb : TE} {x : Str} {y : V} (h : Ev ta σ H (.str x)) (h' : Ev tb σ H y) : EvP (tCB (rDictP K) (tCons (tLst (tCons (tTup (tCons ta (tCons tb tNil))) tNil)) tNil)) σ H (fun v H' => ∃ p, v = .ref p ∧ H p = none ∧ H' p = some (.dK [(Sum.inr x, y)])) := fun H1 e Q q =>
  h H1 e _ fun H2 e2 => h' H2 (e.trans e2) _ fun H3 e3 => ⟨show 2 ≤ sizeLine by decide, fun a ha => ⟨show 1 ≤ sizeLine by decide, fun l hl => by
    refine ⟨l, [a], [(Sum.inr x, y)], rfl, Evl.sq_of upd_same, .cons (Evl.st_of ?_) .nil, fun p hp => ?_⟩
    · rw [upd_ne (ne_of_none upd_same hl)]; exact upd_same
    · have e5 := ((e2.trans e3).trans (Ex.new (o := .tup [.str x, y]) ha)).trans (Ex.new (o := .lst [.ref a]) hl)
      exact q _ _ (e5.trans (Ex.new hp)) ⟨p, rfl, fresh_back (e.trans e5) hp, by rw [upd_same]; rfl⟩⟩⟩
/-- keys that are texts -/
def kvOf (fd : List Str) : List (Key × V) := fd.map fun t => (Sum.inr t, V.bl true)
theorem kvOf_val (t : Str) : ∀ fd : List Str, valV (kvOf fd) (Sum.inr t) = if t ∈ fd then some (.bl true) else none
  | [] => rfl
  | x :: fd => by
    have ih := kvOf_val t fd
    by_cases e : x = t
    · rw [if_pos (by rw [e]; exact List.mem_cons_self)]
      exact valV_pos (by rw [e])
    · have : valV (kvOf (x :: fd)) (Sum.inr t) = valV (kvOf fd) (Sum.inr t) := valV_neg (fun z => e (Sum.inr.inj z))
      rw [this, ih]
      have q : (t ∈ x :: fd) ↔ t ∈ fd := ⟨fun h => (List.mem_cons.mp h).resolve_left fun z => e z.symm, List.mem_cons_of_mem _⟩
      simp only [q]
/-- the two that met_from changes -/
structure DfAt (H H' : Hp) (p l : Addr) (s : NhM.Df Str) : Prop where
  ex : Ex H H'
  p : H' p = some (.dK (kvOf s.1))
  l : H' l = some (.lst (s.2.map V.str))
theorem DfAt.more {H H1 H2 : Hp} {p l : Addr} {s : NhM.Df Str} (h : DfAt H H1 p l s) (e : Ex H1 H2) : DfAt H H2 p l s := ⟨h.ex.trans e, e _ _ h.p, e _ _ h.l⟩
theorem Ex.upd0 {H H' : Hp} {p : Addr} {o : HO} (e : Ex H H') (h : H p = none) : Ex H (upd H' p o) := e.mut h
theorem evP_inS' {K : PySem.W.Frag} {σ : L2.St} {H : Hp} {ta tb : TE} {z : Str} {l : List Str} (h : Ev ta σ H (.str z)) (hb : EvP tb σ H (Da (dLot l))) : EvT (tTest (tOp (rIn K false) ta tb)) σ H (decide (z ∈ l)) := et_test (ev_inS (neg := false) h hb)
theorem et_notInD {σ : L2.St} {H : Hp} {ta tb : TE} {z : Str} {p : Addr} {kvs : List (Key × V)} (h : Ev ta σ H (.str z)) (hb : Ev tb σ H (.ref p)) (hp : H p = some (.dK kvs)) : EvT (tB (tDNotIn ta tb)) σ H (!(valV kvs (Sum.inr z)).isSome) := fun H1 e Q q =>
  h H1 e _ fun H2 e2 => hb H2 (e.trans e2) _ fun H3 e3 => ⟨p, _, rfl, DGet.k (k := Sum.inr z) ((e.trans (e2.trans e3)) p _ hp), _, rfl, q H3 (e2.trans e3)⟩
theorem et_inD {σ : L2.St} {H : Hp} {ta tb : TE} {z : Str} {p : Addr} {kvs : List (Key × V)} (h : Ev ta σ H (.str z)) (hb : Ev tb σ H (.ref p)) (hp : H p = some (.dK kvs)) : EvT (tB (tDIn ta tb)) σ H ((valV kvs (Sum.inr z)).isSome) := fun H1 e Q q =>
  h H1 e _ fun H2 e2 => hb H2 (e.trans e2) _ fun H3 e3 => ⟨p, _, rfl, DGet.k (k := Sum.inr z) ((e.trans (e2.trans e3)) p _ hp), _, rfl, q H3 (e2.trans e3)⟩
theorem q_dputS {σ : L2.St} {H : Hp} {td ty tv : TE} {tz : TS} {D : Ends} {v : V} {p : Addr} {z : Str} {kvs : List (Key × V)} (hv : Ev tv σ H v) (hd : Ev td σ H (.ref p)) (hk : Ev ty σ H (.str z)) (hp : H p = some (.dK kvs)) (hl : kvs.length < 100000) (k : ∀ H1, Ex H H1 → tz D σ (upd H1 p (.dK (putK kvs (Sum.inr z) v)))) : tSeq (sDPut td ty tv) tz D σ H :=
  hv H (Ex.refl H) _ fun H1 e1 => hd H1 e1 _ fun H2 e2 => hk H2 (e1.trans e2) _ fun H3 e3 => ⟨p, _, rfl, DPut.k (k := Sum.inr z) (((e1.trans e2).trans e3) p _ hp) (Evl.sz_lt hl), k H3 ((e1.trans e2).trans e3)⟩
theorem s_dputS {σ : L2.St} {H : Hp} {td ty tv : TE} {D : Ends} {v : V} {p : Addr} {z : Str} {kvs : List (Key × V)} (hv : Ev tv σ H v) (hd : Ev td σ H (.ref p)) (hk : Ev ty σ H (.str z)) (hp : H p = some (.dK kvs)) (hl : kvs.length < 100000) (k : ∀ H1, Ex H H1 → D.nx σ (upd H1 p (.dK (putK kvs (Sum.inr z) v)))) : sDPut td ty tv D σ H :=
  hv H (Ex.refl H) _ fun H1 e1 => hd H1 e1 _ fun H2 e2 => hk H2 (e1.trans e2) _ fun H3 e3 => ⟨p, _, rfl, DPut.k (k := Sum.inr z) (((e1.trans e2).trans e3) p _ hp) (Evl.sz_lt hl), k H3 ((e1.trans e2).trans e3)⟩
/-- i = l.pop() -/
theorem q_popL {K : PySem.W.Frag} {σ : L2.St} {H : Hp} {te : TE} {tz : TS} {D : Ends} {l : Addr} {i : Nat} {xs : List V} {y : V} (h : Ev te σ H (.ref l)) (hl : H l = some (.lst (xs ++ [y]))) (k : ∀ H1, Ex H H1 → tz D (σ.set i (some y)) (upd H1 l (.lst xs))) : tSeq (tAsg (tBM0 K "list" rPop te) (gName i)) tz D σ H :=
  h H (Ex.refl H) _ fun H1 e1 => ⟨Or.inl ⟨rfl, _, Evl.sq_of (e1 l _ hl)⟩, l, xs ++ [y], y, rfl, rfl, e1 l _ hl, by simp, by
    rw [List.dropLast_concat]
    exact k H1 e1⟩
theorem lot_perm {a b : List Str} (h : a.Perm b) (x : Str) : x ∈ a ↔ x ∈ b := h.mem_iff
abbrev st_met_from : Stmt := topS 28
theorem sc_met_from : FnScope ["town", "towers", "one", "found", "waiting", "here", "wire", "late", "other"] ["town", "towers", "one"] (defScope st_met_from) := ⟨rfl, rfl, rfl, by decide +kernel, rfl, by decide +kernel, by decide +kernel⟩
def sp_met_from : Sp := spD (fun (i : List Str × List Wr × List Str × Str) => [dTown i.1 i.2.1, dLot i.2.2.1, .str i.2.2.2]) (fun i => i.2.2.1.length ≤ 50 ∧ i.2.1.length ≤ 100 ∧ i.2.2.2 ∈ i.2.2.1) (fun i H v H' => ∃ l, (∀ t, t ∈ l ↔ ∃ w, NhM.Way i.2.1 i.2.2.1 i.2.2.2 t w) ∧ l.length ≤ 50 ∧ Den H' v (dLot l))
theorem ok_met_from {f : Addr} {fd : FuncData} (D : Df K mg "met_from" st_met_from ["town", "towers", "one"] f fd) (B : Bn mg)   : C8.Cal P w K mg base 1 "met_from" sp_met_from [] := by
  refine D.cal (D.F.ok (k := 0) sc_met_from (spD_len 3 fun _ => rfl) (fun cdv A outer s H vs Q E hr h => ?_))
  obtain ⟨⟨T, E', R, s0⟩, hd, ⟨hR, hE, hs⟩, q⟩ := h
  try dsimp only at hd q
  obtain ⟨u, v, x, rfl, hu, hv, hx⟩ := hd.three
  cases hx
  have hu : Den H u (.tuple [dLot T, .tuple (E'.map dWire)]) := hu
  have hv : Den H v (dLot R) := hv
  have hR : R.length ≤ 50 := hR
  have hE : E'.length ≤ 100 := hE
  have hs : s0 ∈ R := hs
  have q : ∀ (v : V) (H' : Hp), Ex H H' → (∃ l, (∀ t, t ∈ l ↔ ∃ w, NhM.Way E' R s0 t w) ∧ l.length ≤ 50 ∧ Den H' v (dLot l)) → Q v H' := q
  refine ⟨_, (pss_cons (ps_asg (pe_callTy (call_dictP rfl) (by rfl) B.dict (by decide +kernel) (pa_cons (pe_lst (pa_cons (pe_tup (pa_cons (pv 2) (pa_cons pe_bl pa_nil))) pa_nil)) pa_nil)) (pg_name (i := 3) sc_met_from.nd rfl (Or.inl rfl))) (pss_cons (ps_asg (pe_lst (pa_cons (pv 2) pa_nil)) (pg_name (i := 4) sc_met_from.nd rfl (Or.inl rfl))) (pss_cons (ps_while PassesOwn.never (pt_cmpR op_gt (pe_callB call_len_seq (by rfl) B.len boot_len (pa_cons (pv 4) pa_nil)) pe_int (nomark _)) (pss_cons (ps_asg (pe_bm0 PySem.F.plainAttrs_list PySem.F.slot_list_pop PySem.F.type_list_pop mt_pop (pv 4)) (pg_name (i := 5) sc_met_from.nd rfl (Or.inl rfl))) (pss_one (ps_for PassesOwn.never rfl (pi_tup (pe_ix ix_tup (pv 0) pe_int (fun _ _ => rfl))) (pg_name (i := 6) sc_met_from.nd rfl (Or.inl rfl)) (pss_one (ps_for PassesOwn.never rfl (pi_tup (pe_tup (pa_cons (pe_tup (pa_cons (pe_ix ix_tup (pv 6) pe_int (fun _ _ => rfl)) (pa_cons (pe_ix ix_tup (pv 6) pe_int (fun _ _ => rfl)) pa_nil))) (pa_cons (pe_tup (pa_cons (pe_ix ix_tup (pv 6) pe_int (fun _ _ => rfl)) (pa_cons (pe_ix ix_tup (pv 6) pe_int (fun _ _ => rfl)) pa_nil))) pa_nil)))) (pg_tup (n := 2) rfl (pgs_cons (pg_name (i := 7) sc_met_from.nd rfl (Or.inl rfl)) (pgs_cons (pg_name (i := 8) sc_met_from.nd rfl (Or.inl rfl)) pgs_nil))) (pss_one (ps_if (PW.pt (pw_and (pt_cmpR op_eq (pv 7) (pv 5) (nomark _)) (pw_and (pt_cmpR op_in_seq (pv 8) (pv 1) (by rfl)) (pw_and1 (pt_cmp (pc_dnotin (hu_of hr) (pv 8) (pv 3))))))) (pss_cons (ps_dput (hu_of hr) (pv 3) (pv 8) pe_bl rfl) (pss_one (ps_expr (pe_bm PySem.F.plainAttrs_list PySem.F.slot_list_append PySem.F.type_list_append mt_append (pv 4) (pa_cons (pv 8) pa_nil))))) pss_nil)))))))) (pss_one (ps_ret (pe_callTy call_tuple_of (by rfl) B.tuple (by decide +kernel) (pa_cons (pe_callB (call_sortedD rfl) (by rfl) B.sorted (by decide +kernel) (pa_cons (pv 3) pa_nil)) pa_nil))))))), ?_⟩
  refine q_asgP (evP_dict1 (ev_var rfl) ev_c) fun pv H1 e1 hp => ?_
  obtain ⟨p, rfl, hp0, hp1⟩ := hp
  refine q_asgP (evP_lst (ead1 (evP_of_str (ev_var rfl))) (show 1 ≤ 100000 by decide)) fun lv H2 e2 hl => ?_
  obtain ⟨l, ys, rfl, hl0, hl2, hy⟩ := hl
  have hy : ys = [V.str s0] := DenAll.strs (l := [s0]).mp hy
  subst hy
  have npl : p ≠ l := fun z => by rw [← z, hp1] at hl0; cases hl0
  have hlH : H l = none := fresh_back e1 hl0
  have nt : ∀ xs : List V, ∀ (o : HO), (∃ kvs, o = .dK kvs) ∨ (∃ ys, o = .lst ys) → o ≠ .tup xs := fun xs o h => by rcases h with ⟨_, rfl⟩ | ⟨_, rfl⟩ <;> exact fun z => nomatch z
  refine q_while (W := fun n σ' H' => ∃ s : NhM.Df Str, n = NhM.dfM R s ∧ n ≤ 200 ∧ NhM.DfInv E' R s0 s ∧ DfAt H H' p l s ∧ ∃ a b c d, σ' = [some u, some v, some (.str s0), some (.ref p), some (.ref l), a, b, c, d]) _ ⟨([s0], [s0]), rfl, (by show 2 * (R.length - 1) + 1 ≤ 200; omega), NhM.df_start hs, ⟨e1.trans e2, e2 p _ hp1, hl2⟩, _, _, _, _, rfl⟩ ?_
  rintro n σ' H' ⟨⟨fd, wt⟩, rfl, hn, inv, at1, a, b, c, d, rfl⟩
  refine ⟨_, et_test (ev_gt (ev_lenL (ev_var rfl) at1.l) ev_c), fun hb H3 e3 => ?_, fun hb H3 e3 => ?_⟩
  · have hb : 0 < wt.length := by
      have := of_decide_eq_true hb
      rw [List.length_map] at this
      have t2 : (0 : Int) < ((wt.length : Nat) : Int) := this
      omega
    obtain ⟨wt', here, rfl⟩ : ∃ w h, wt = w ++ [h] := ⟨wt.dropLast, wt.getLast (List.ne_nil_of_length_pos hb), (List.dropLast_concat_getLast _).symm⟩
    have at3 := at1.more e3
    refine ⟨fun σ2 H2 => ∃ s : NhM.Df Str, NhM.dfM R s < NhM.dfM R (fd, wt' ++ [here]) ∧ NhM.DfInv E' R s0 s ∧ DfAt H H2 p l s ∧ ∃ a b c d, σ2 = [some u, some v, some (.str s0), some (.ref p), some (.ref l), a, b, c, d], fun σ2 H2 h => ?_, ?_⟩
    · obtain ⟨s, h1, h2, h3, h4⟩ := h
      exact ⟨_, h1, s, rfl, by omega, h2, h3, h4⟩
    have okI := inv.1
    have hhere : here ∈ fd := okI.wt here (List.mem_append_right _ List.mem_cons_self)
    have ok0 : NhM.DfOk E' R s0 (fd, wt') := ⟨okI.nd, okI.sub, okI.way, okI.fst, fun t ht => okI.wt t (List.mem_append_left _ ht)⟩
    have fall := NhM.df_falls inv
    have turn := NhM.df_turn inv
    have hm0 : NhM.dfM R (fd, wt') ≤ 200 := by
      have : NhM.dfM R (fd, wt' ++ [here]) = NhM.dfM R (fd, wt') + 1 := by show _ + _ = _ + _ + 1; simp; omega
      omega
    refine q_popL (xs := wt'.map V.str) (y := .str here) (ev_var rfl) (by rw [at3.l, List.map_append]; rfl) fun H4 e4 => ?_
    have ax : DfAt H (upd H4 l (.lst (wt'.map V.str))) p l (fd, wt') := ⟨(at3.ex.trans e4).mut hlH, by rw [upd_ne npl]; exact e4 p _ at3.p, upd_same⟩
    refine s_forT (srcT_P (evP_ix (i := 1) (EvP.var rfl (hu.ex ax.ex)) ev_c rfl)) (fun H2 i σ' H' => Tk H2 H' ∧ (NhM.DfOk E' R s0 (NhM.dfE R (E'.take i) here (fd, wt')) ∧ NhM.dfM R (NhM.dfE R (E'.take i) here (fd, wt')) ≤ 200 ∧ DfAt H H' p l (NhM.dfE R (E'.take i) here (fd, wt'))) ∧ ∃ b c d, σ' = [some u, some v, some (.str s0), some (.ref p), some (.ref l), some (.str here), b, c, d]) (fun H2 e2 => ⟨Tk.refl _, ⟨ok0, hm0, ax.more e2⟩, _, _, _, rfl⟩) (fun _ _ _ _ _ p => p.1) ?_ ?_
    · rintro Hs es i dw hi xw σ' H0 H' ⟨r1, ⟨g1, g2, r2⟩, b, c, d, rfl⟩ e0 hw
      obtain ⟨⟨ea, eb, lo, hh⟩, hwi, rfl⟩ : ∃ e, E'[i]? = some e ∧ dw = dWire e := by
        rw [List.getElem?_map] at hi
        cases h : E'[i]? with
        | none => rw [h] at hi; cases hi
        | some e => rw [h] at hi; cases hi; exact ⟨e, rfl, rfl⟩
      have hwm := List.mem_of_getElem? hwi
      have hsub : ∀ e ∈ E'.take i, e ∈ E' := fun e he => List.mem_of_mem_take he
      have hin : here ∈ (NhM.dfE R (E'.take i) here (fd, wt')).1 := NhM.dfE_grow _ hhere
      have stp : NhM.dfE R (E'.take (i + 1)) here (fd, wt') = ([(ea, eb), (eb, ea)] : List (Str × Str)).foldl (fun s q => NhM.dfS R here q.1 q.2 s) (NhM.dfE R (E'.take i) here (fd, wt')) := by
        rw [List.take_add_one, hwi]
        unfold NhM.dfE
        rw [Option.toList_some, List.foldl_append]
        rfl
      generalize NhM.dfE R (E'.take i) here (fd, wt') = s1 at g1 g2 r2 hin stp
      refine evG_name H' (Ex.refl _) _ fun H5 e5 => ?_
      have r5 := r2.more (e0.trans e5)
      have tk5 := (r1.trans (Tk.ex e0)).trans (Tk.ex e5)
      have hw5 : Den H5 xw (.tuple [.str ea, .str eb, .int lo, .int hh]) := hw.ex e5
      have w0 := evP_ix (K := K) (i := 0) (σ := [some u, some v, some (.str s0), some (.ref p), some (.ref l), some (.str here), some xw, c, d]) (te := tVar 6) (ti := tC (.int 0)) (EvP.var rfl hw5) ev_c rfl
      have w1 := evP_ix (K := K) (i := 1) (σ := [some u, some v, some (.str s0), some (.ref p), some (.ref l), some (.str here), some xw, c, d]) (te := tVar 6) (ti := tC (.int 1)) (EvP.var rfl hw5) ev_c rfl
      have pr : EvP (tTup (tCons (tTup (tCons (tOp (rIxT K) (tVar 6) (tC (.int 0))) (tCons (tOp (rIxT K) (tVar 6) (tC (.int 1))) tNil))) (tCons (tTup (tCons (tOp (rIxT K) (tVar 6) (tC (.int 1))) (tCons (tOp (rIxT K) (tVar 6) (tC (.int 0))) tNil))) tNil))) [some u, some v, some (.str s0), some (.ref p), some (.ref l), some (.str here), some xw, c, d] H5 (Da (PyData.tuple (([(ea, eb), (eb, ea)] : List (Str × Str)).map fun q => PyData.tuple [PyData.str q.1, PyData.str q.2]))) :=
        evP_tup (ds := [.tuple [.str ea, .str eb], .tuple [.str eb, .str ea]]) (EvP.of2 (evP_tup (EvP.of2 w0 w1) (show 2 ≤ 100000 by decide)) (evP_tup (EvP.of2 w1 w0) (show 2 ≤ 100000 by decide))) (show 2 ≤ 100000 by decide)
      have src2 := SrcT.map (Tb := fun q x H => Den H x (PyData.tuple [PyData.str q.1, PyData.str q.2])) (srcT_P (K := K) pr) (fun _ _ _ _ h => h)
      refine s_forT src2 (fun H2 j σ' H' => Tk H2 H' ∧ (NhM.DfOk E' R s0 ((([(ea, eb), (eb, ea)] : List (Str × Str)).take j).foldl (fun s q => NhM.dfS R here q.1 q.2 s) s1) ∧ NhM.dfM R ((([(ea, eb), (eb, ea)] : List (Str × Str)).take j).foldl (fun s q => NhM.dfS R here q.1 q.2 s) s1) ≤ 200 ∧ here ∈ ((([(ea, eb), (eb, ea)] : List (Str × Str)).take j).foldl (fun s q => NhM.dfS R here q.1 q.2 s) s1).1 ∧ DfAt H H' p l ((([(ea, eb), (eb, ea)] : List (Str × Str)).take j).foldl (fun s q => NhM.dfS R here q.1 q.2 s) s1)) ∧ ∃ c d, σ' = [some u, some v, some (.str s0), some (.ref p), some (.ref l), some (.str here), some xw, c, d]) (fun H2 e2 => ⟨Tk.refl _, ⟨g1, g2, hin, r5.more e2⟩, _, _, rfl⟩) (fun _ _ _ _ _ p => p.1) ?_ ?_
      · rintro Hs2 es2 j ⟨qa, qb⟩ hj xq σ' H6 H7 ⟨t1, ⟨k1, k2, k3, t2⟩, c, d, rfl⟩ e7 hq
        have hab : ((⟨ea, eb, lo, hh⟩ : Wr).a = qa ∧ (⟨ea, eb, lo, hh⟩ : Wr).b = qb) ∨ ((⟨ea, eb, lo, hh⟩ : Wr).a = qb ∧ (⟨ea, eb, lo, hh⟩ : Wr).b = qa) := by
          match j, hj with
          | 0, hj => cases hj; exact .inl ⟨rfl, rfl⟩
          | 1, hj => cases hj; exact .inr ⟨rfl, rfl⟩
        have stp2 : (([(ea, eb), (eb, ea)] : List (Str × Str)).take (j + 1)).foldl (fun s q => NhM.dfS R here q.1 q.2 s) s1 = NhM.dfS R here qa qb ((([(ea, eb), (eb, ea)] : List (Str × Str)).take j).foldl (fun s q => NhM.dfS R here q.1 q.2 s) s1) := by
          rw [List.take_add_one, hj, Option.toList_some, List.foldl_append]
          rfl
        rw [stp2]
        generalize (([(ea, eb), (eb, ea)] : List (Str × Str)).take j).foldl (fun s q => NhM.dfS R here q.1 q.2 s) s1 = s2 at k1 k2 k3 t2
        have n1 := NhM.dfS_ok hwm hab k3 k1
        have n2 := Nat.le_trans (NhM.dfS_M hwm hab k3 k1) k2
        have n3 : here ∈ (NhM.dfS R here qa qb s2).1 := NhM.dfS_grow _ k3
        obtain ⟨tq, xs, rfl, htq, hdq⟩ := Den.tuple hq
        obtain ⟨y, z, rfl, hy, hz⟩ := hdq.two
        cases hy
        cases hz
        refine evG_pair (σ := [some u, some v, some (.str s0), some (.ref p), some (.ref l), some (.str here), some xw, c, d]) htq H7 (Ex.refl _) _ fun H8 e8 => ?_
        have t8 := t2.more (e7.trans e8)
        have tk8 := (t1.trans (Tk.ex e7)).trans (Tk.ex e8)
        have hv8 : Den H8 v (dLot R) := hv.ex t8.ex
        refine s_if (b := decide (qa = here ∧ qb ∈ R ∧ qb ∉ s2.1)) (et_is (et_and (et_test (ev_eqStr (ev_var rfl) (ev_var rfl))) fun _ => et_and (evP_inS' (ev_var rfl) (EvP.var rfl hv8)) fun _ => et_notInD (ev_var rfl) (ev_var rfl) t8.p) ?_) (fun hb H9 e9 => ?_) fun hb H9 e9 => ?_
        · rw [kvOf_val]
          by_cases c3 : qb ∈ s2.1 <;> by_cases c2 : qb ∈ R <;> by_cases c1 : qa = here <;> simp [c1, c2, c3]
        · have hb := of_decide_eq_true hb
          have st2 : NhM.dfS R here qa qb s2 = (s2.1 ++ [qb], s2.2 ++ [qb]) := if_pos hb
          have f50 : s2.1.length ≤ 50 := Nat.le_trans (NhM.nodup_le _ R k1.nd k1.sub) hR
          have f200 : s2.2.length ≤ 200 := by unfold NhM.dfM at k2; omega
          have t9 := t8.more e9
          refine q_dputS ev_c (ev_var rfl) (ev_var rfl) t9.p (by unfold kvOf; rw [List.length_map]; omega) fun H10 e10 => ?_
          have t10 := t9.more e10
          refine s_app (xs := s2.2.map V.str) (l := l) (by rw [upd_ne (Ne.symm npl)]; exact t10.l) (ev_var rfl) (ev_var rfl) (by rw [List.length_map]; omega) fun H11 e11 => ?_
          have val0 : valV (kvOf s2.1) (Sum.inr qb) = none := by rw [kvOf_val, if_neg hb.2.2]
          have nk : putK (kvOf s2.1) (Sum.inr qb) (.bl true) = kvOf (s2.1 ++ [qb]) := by
            rw [putK_new _ val0]; unfold kvOf; rw [List.map_append]; rfl
          have tkp : Tk H10 (upd H10 p (.dK (putK (kvOf s2.1) (Sum.inr qb) (.bl true)))) := Tk.upd fun xs z => by rw [t10.p] at z; cases z
          have hl11 : H11 l = some (.lst (s2.2.map V.str)) := e11 l _ (by rw [upd_ne (Ne.symm npl)]; exact t10.l)
          have tkl : Tk H11 (upd H11 l (.lst (s2.2.map V.str ++ [.str qb]))) := Tk.upd fun xs z => by rw [hl11] at z; cases z
          refine ⟨(tk8.trans ((Tk.ex (e9.trans e10)).trans tkp)).trans ((Tk.ex e11).trans tkl), ⟨n1, n2, n3, ?_⟩, _, _, rfl⟩
          rw [st2]
          refine ⟨((t10.ex.mut (fresh_back (Ex.refl H) hp0)).trans e11).mut hlH, ?_, ?_⟩
          · rw [upd_ne npl]
            have := e11 p _ upd_same
            rw [this, nk]
          · rw [upd_same, List.map_append]; rfl
        · have hb := of_decide_eq_false hb
          have st2 : NhM.dfS R here qa qb s2 = s2 := if_neg hb
          rw [st2]
          exact ⟨tk8.trans (Tk.ex e9), ⟨k1, k2, k3, t8.more e9⟩, _, _, rfl⟩
      · rintro Hs2 es2 σ' H7 ⟨t1, ⟨k1, k2, k3, t2⟩, c, d, rfl⟩
        rw [stp]
        exact ⟨(tk5.trans (Tk.ex es2)).trans t1, ⟨k1, k2, t2⟩, _, _, _, rfl⟩
    · rintro Hs es σ' H' ⟨r1, ⟨g1, g2, r2⟩, b, c, d, rfl⟩
      rw [List.length_map, List.take_length] at r2
      exact ⟨_, fall, turn, r2, _, _, _, _, rfl⟩
  · have hb : wt = [] := by
      have := of_decide_eq_false hb
      rw [List.length_map] at this
      have t2 : ¬ (0 : Int) < ((wt.length : Nat) : Int) := this
      exact List.length_eq_zero_iff.mp (by omega)
    subst hb
    have at3 := at1.more e3
    have ok0 := inv.1
    have f50 : fd.length ≤ 50 := Nat.le_trans (NhM.nodup_le _ R ok0.nd ok0.sub) hR
    have dn := NhM.df_done inv
    refine s_retP (D := { nx := fun _ H' => Q .non H', rt := Q }) (P := fun v H' => ∃ l, (∀ t, t ∈ l ↔ ∃ w, NhM.Way E' R s0 t w) ∧ l.length ≤ 50 ∧ Den H' v (dLot l)) ?_ fun v H4 e4 h => q v H4 (at3.ex.trans e4) h
    intro H4 e4 Q' q'
    refine ⟨_, rfl, p, kvOf fd, fd, rfl, Or.inl (e4 p _ at3.p), (by unfold kvOf; rw [List.map_map]; rfl), by omega, fun ys c pm _ hc => ?_⟩
    refine ⟨c, _, rfl, .inl ⟨Evl.sq_of upd_same, fun t ht => q' _ _ ((Ex.new hc).trans (Ex.new ht)) ⟨ys, fun t => by rw [lot_perm pm]; exact dn t, by rw [pm.length_eq]; exact f50, den_lot.mpr ⟨t, rfl, upd_same⟩⟩⟩⟩
end
end Nh

namespace Nh
open PySem PySem.Spec PyProof.Rows L2 Evl
section
variable {P : Program} {w : World} {K : PySem.W.Frag} {mg : Str → Option Value} {base : Heap}

theorem evG_quad {K : PySem.W.Frag} {σ : L2.St} {H : Hp} {a : Addr} {i j m n : Nat} {u v x y : V} (h : H a = some (.tup [u, v, x, y])) : EvG (gTup K 4 (gCons (gName i) (gCons (gName j) (gCons (gName m) (gCons (gName n) gNil))))) (.ref a) σ H ((((σ.set i (some u)).set j (some v)).set m (some x)).set n (some y)) := fun H1 e _ q =>
  ⟨a, _, rfl, Evl.st_of (e a _ h), rfl, u, _, rfl, v, _, rfl, x, _, rfl, y, [], rfl, rfl, q H1 (Ex.refl H1)⟩
/-- a for over a new list of which something is known -/
theorem s_forE {K : PySem.W.Frag} {σ : L2.St} {H : Hp} {te : TE} {g : TG} {tb : TS} {D : Ends} {γ : Type} {φ : γ → Prop} {ds : γ → List PyData} (h : EvP te σ H (fun v H' => ∃ c, φ c ∧ ND H (ds c) v H')) (k : ∀ c, φ c → ∀ H1 te', Ex H H1 → EvP te' σ H1 (ND H (ds c)) → tFor (iList K te') g tb D σ H1) : tFor (iList K te) g tb D σ H :=
  h H (Ex.refl H) _ fun v H1 e hv => by
    obtain ⟨c, hc, hn⟩ := hv
    exact k c hc H1 (tC v) e (EvP.of ev_c fun H2 e2 => ND.mono e2 hn)
theorem srcD_new' {K : PySem.W.Frag} {σ : L2.St} {H H0 : Hp} {te : TE} {p : Addr} {ds : List PyData} (h : EvP te σ H (ND H0 ds)) (h0 : H0 p ≠ none) {o : HO} (hp : H p = some o) (ho : ∀ xs, o ≠ .tup xs) : SrcR (Exd p) (iList K te) σ H ds (fun d x H' => Den H' x d) := fun R q =>
  h H (Ex.refl H) _ fun v H2 e2 hn => by
    obtain ⟨c, ys, rfl, hc, hcv, hd⟩ := hn
    have ne : c ≠ p := fun z => h0 (by rw [← z]; exact hc)
    have nt : ∀ xs, H2 p ≠ some (.tup xs) := fun xs z => by rw [e2 p o hp] at z; exact ho xs (Option.some.inj z)
    refine ⟨c, rfl, ⟨ys, Evl.sq_of hcv⟩, ?_⟩
    have hl := hd.len
    refine q _ H2 (fun H => SqL K H c ys) (YAt ys) e2 (hl ▸ walk_list) (fun H3 e3 => Evl.sq_of (e3 c _ ne hcv)) fun i x H3 H4 e3 y _ => ?_
    obtain ⟨rfl, y⟩ := y
    obtain ⟨d, h1, h2⟩ := hd.get y
    exact ⟨Ex.refl _, d, h1, h2.tk (e3.tk nt) _ _⟩
theorem choice_at {H : Hp} {x : V} {cs : List (List Str × List Str × Str × Str)} {i : Nat} {d : PyData} (hi : (cs.map dChoice)[i]? = some d) (hx : Den H x d) : ∃ c, cs[i]? = some c ∧ ∃ t u v, x = .ref t ∧ H t = some (.tup [u, v, .str c.2.2.1, .str c.2.2.2]) ∧ Den H u (dLot c.1) ∧ Den H v (dLot c.2.1) := by
  rw [List.getElem?_map] at hi
  cases hc : cs[i]? with
  | none => rw [hc] at hi; cases hi
  | some c =>
    rw [hc] at hi
    cases hi
    obtain ⟨t, xs, rfl, ht, hd⟩ := Den.tuple hx
    obtain ⟨u, v, y, z, rfl, hu, hv, hy, hz⟩ := hd.four
    cases hy
    cases hz
    exact ⟨c, rfl, t, u, v, rfl, ht, hu, hv⟩
theorem choice_in {T : List Str} {F : List (List Str)} {cs : List (List Str × List Str × Str × Str)} (C : NhM.ChoicesOk T F cs) {c : List Str × List Str × Str × Str} (h : c ∈ cs) : c.2.2.1 ∈ NhM.less (NhM.less T c.1) c.2.1 := by
  obtain ⟨a, ha, b, hb, x, hx, y, hy, hne, rfl⟩ := C.sound c h
  refine NhM.mem_less.mpr ⟨NhM.mem_less.mpr ⟨hx, fun h => ?_⟩, fun h => ?_⟩
  · exact (NhM.mem_less.mp h).2 List.mem_cons_self
  · exact (NhM.mem_less.mp h).2 List.mem_cons_self
theorem less_len (l t : List Str) : (NhM.less l t).length ≤ l.length := List.length_filter_le _ _
theorem take_all {α : Type} {l : List α} {i : Nat} {a : α} {p : α → Prop} (h : ∀ x ∈ l.take i, p x) (e : l[i]? = some a) (ha : p a) : ∀ x ∈ l.take (i + 1), p x := by
  intro x hx
  rw [List.take_add_one, e] at hx
  rcases List.mem_append.mp hx with h1 | h1
  · exact h x h1
  · rw [List.mem_singleton.mp h1]; exact ha
abbrev st_two_by : Stmt := topS 32
theorem sc_two_by : FnScope ["town", "fears", "one", "other", "first", "last", "part"] ["town", "fears"] (defScope st_two_by) := ⟨rfl, rfl, rfl, by decide +kernel, rfl, by decide +kernel, by decide +kernel⟩
def sp_two_by : Sp := spD (fun (i : List Str × List Wr × List (List Str) × Option Int) => [dTown i.1 i.2.1, dFears i.2.2.1]) (fun i => TownOk i.1 i.2.1 ∧ FearsOk i.1 i.2.2.1 ∧ NhM.PlaySpec i.1 i.2.1 i.2.2.1 i.2.2.2) (fun i H v H' => ∃ d, Den H' v d ∧ isNone d = i.2.2.2.isSome)
theorem ok_two_by {f : Addr} {fd : FuncData} (D : Df K mg "two_by" st_two_by ["town", "fears"] f fd) (B : Bn mg)  (c_choices_of : C8.Cal P w K mg base 2 "choices_of" sp_choices_of []) (c_met_from : C8.Cal P w K mg base 1 "met_from" sp_met_from []) (c_rest_of : C8.Cal P w K mg base 2 "rest_of" sp_rest_of []) : C8.Cal P w K mg base 3 "two_by" sp_two_by [] := by
  refine D.cal (D.F.ok (k := 2) sc_two_by (spD_len 2 fun _ => rfl) (fun cdv A outer s H vs Q E hr h => ?_))
  obtain ⟨⟨T, E', F, r⟩, hd, ⟨ok, ok2, ply⟩, q⟩ := h
  try dsimp only at hd q
  obtain ⟨u, v, rfl, hu, hv⟩ := hd.two
  have hu : Den H u (.tuple [dLot T, .tuple (E'.map dWire)]) := hu
  have ok : TownOk T E' := ok
  have ok2 : FearsOk T F := ok2
  have ply : NhM.PlaySpec T E' F r := ply
  have q : ∀ (v : V) (H' : Hp), Ex H H' → (∃ d, Den H' v d ∧ isNone d = r.isSome) → Q v H' := q
  have hT := ok.len
  have hE := ok.elen
  refine ⟨_, (pss_cons (ps_for PassesOwn.never rfl (pi_list (C8.pe_c c_choices_of hr (by decide) (by rfl) (pa_cons (pv 0) (pa_cons (pv 1) pa_nil)))) (pg_tup (n := 4) rfl (pgs_cons (pg_name (i := 2) sc_two_by.nd rfl (Or.inl rfl)) (pgs_cons (pg_name (i := 3) sc_two_by.nd rfl (Or.inl rfl)) (pgs_cons (pg_name (i := 4) sc_two_by.nd rfl (Or.inl rfl)) (pgs_cons (pg_name (i := 5) sc_two_by.nd rfl (Or.inl rfl)) pgs_nil))))) (pss_cons (ps_asg (C8.pe_c c_met_from hr (by decide) (by rfl) (pa_cons (pv 0) (pa_cons (C8.pe_c c_rest_of hr (by decide) (by rfl) (pa_cons (pv 0) (pa_cons (pv 2) (pa_cons (pv 3) pa_nil)))) (pa_cons (pv 4) pa_nil)))) (pg_name (i := 6) sc_two_by.nd rfl (Or.inl rfl))) (pss_one (ps_if (pt_cmpR op_notIn_seq (pv 5) (pv 6) (by rfl)) (pss_one (ps_ret (pe_tup (pa_cons (pv 2) (pa_cons (pv 3) (pa_cons (pv 6) pa_nil)))))) pss_nil)))) (pss_one (ps_ret pe_non))), ?_⟩
  refine s_forE (D := { nx := fun σ1 H1 => (tRet (tC .non)) { nx := fun _ H' => Q .non H', rt := Q } σ1 H1, rt := Q }) (γ := List (List Str × List Str × Str × Str)) (φ := fun cs => NhM.ChoicesOk T F cs) (ds := fun cs => cs.map dChoice) (evP_callR (P := fun v H' => ∃ c, NhM.ChoicesOk T F c ∧ ND H (c.map dChoice) v H') (T, E', F) (EvP.of2 (EvP.var rfl hu) (EvP.var rfl hv)) ⟨ok, ok2⟩ fun H1 v H2 e1 e2 hv => ?_) fun cs C H1 te' e1 hte => ?_
  · obtain ⟨cs, _, C, p, ys, rfl, hp, h2, h3⟩ := hv
    exact ⟨cs, C, p, ys, rfl, fresh_back e1 hp, h2, h3⟩
  have reach := NhM.play_reach (E := E') C ply
  refine s_forS (src_new hte) (fun H2 i σ' H' => Ex H2 H' ∧ (∀ c ∈ cs.take i, ∃ w, NhM.Way E' (NhM.less (NhM.less T c.1) c.2.1) c.2.2.1 c.2.2.2 w) ∧ ∃ a b c d e, σ' = [some u, some v, a, b, c, d, e]) (fun H2 e2 => ⟨Ex.refl _, fun c hc => by simp at hc, _, _, _, _, _, rfl⟩) (fun _ _ _ _ _ p => p.1) ?_ ?_
  · rintro Hs es i d hi x σ' H0 H' ⟨r1, r2, a, b, c, d', e', rfl⟩ e0 hx
    obtain ⟨⟨one, other, s0, t0⟩, hci, tt, y, z, rfl, htt, hy, hz⟩ := choice_at hi hx
    have ee := ((e1.trans es).trans r1).trans e0
    refine evG_quad (σ := [some u, some v, a, b, c, d', e']) htt H' (Ex.refl _) _ fun H4 e4 => ?_
    have hcm := List.mem_of_getElem? hci
    have hu4 := (hu.ex ee).ex e4
    have hin := choice_in C hcm
    refine q_asgP (P := fun v H' => ∃ l, (∀ t, t ∈ l ↔ ∃ w, NhM.Way E' (NhM.less (NhM.less T one) other) s0 t w) ∧ l.length ≤ 50 ∧ Den H' v (dLot l)) (evP_callR (T, E', NhM.less (NhM.less T one) other, s0) (ead3 (EvP.var rfl hu4) (evP_callD (r := fun i : List Str × List Wr × List Str × List Str => dLot (NhM.less (NhM.less i.1 i.2.2.1) i.2.2.2)) (T, E', one, other) (ead3 (EvP.var rfl hu4) (EvP.var rfl (hy.ex e4)) (EvP.var rfl (hz.ex e4))) (by show T.length ≤ 1000; omega)) (evP_of_str (ev_var rfl))) ⟨?_, ?_, hin⟩ fun _ _ _ _ _ h => h) fun pv H5 e5 hp => ?_
    · have := less_len (NhM.less T one) other
      have := less_len T one
      show (NhM.less (NhM.less T one) other).length ≤ 50
      omega
    · show E'.length ≤ 100
      omega
    obtain ⟨l, hl, hl5, hpl⟩ := hp
    refine s_if (et_test (ev_inS (neg := true) (ev_var rfl) (EvP.var rfl hpl))) (fun hb H6 e6 => ?_) fun hb H6 e6 => ?_
    · have hb : t0 ∉ l := by simpa using hb
      have hne : r.isSome = false := by
        cases r with
        | none => rfl
        | some d =>
          exact absurd ((hl t0).mpr (reach.mpr (fun z => nomatch z) _ hcm)) hb
      refine s_retP (evP_tup (ead3 (EvP.var rfl ((hy.ex e4).ex (e5.trans e6))) (EvP.var rfl ((hz.ex e4).ex (e5.trans e6))) (EvP.var rfl (hpl.ex e6))) (show 3 ≤ 100000 by decide)) fun v H7 e7 hv => ?_
      exact q v H7 ((((ee.trans e4).trans e5).trans e6).trans e7) ⟨_, hv, by rw [hne]; rfl⟩
    · have hb : t0 ∈ l := by simpa using hb
      exact ⟨((r1.trans e0).trans e4).trans (e5.trans e6), take_all r2 hci ((hl t0).mp hb), _, _, _, _, _, rfl⟩
  · rintro Hs es σ' H' ⟨r1, r2, a, b, c, d', e', rfl⟩
    rw [List.length_map, List.take_length] at r2
    refine s_ret (σ := [some u, some v, a, b, c, d', e']) (D := { nx := fun _ H' => Q .non H', rt := Q }) ev_c fun H5 e5 => q _ H5 (((e1.trans es).trans r1).trans e5) ⟨.none, .non, ?_⟩
    cases r with
    | none => exact absurd rfl (reach.mp r2)
    | some d => rfl

def dOpt : Option Int → PyData
  | none => .none
  | some i => .int i
/-- the sums in a dict -/
structure SumAt (H : Hp) (p : Addr) (R : List Str) (f : Str → Option Int) : Prop where
  ex : ∃ kvs : List (Key × V), H p = some (.dK kvs) ∧ (∀ t, valV kvs (Sum.inr t) = (f t).map V.int) ∧ (kvs.map (·.1)).Nodup ∧ ∀ k ∈ kvs.map (·.1), k ∈ R.map Sum.inr
theorem SumAt.more {H H' : Hp} {p : Addr} {R : List Str} {f : Str → Option Int} (h : SumAt H p R f) (e : Ex H H') : SumAt H' p R f := by
  obtain ⟨kvs, h1, h2⟩ := h.ex
  exact ⟨kvs, e p _ h1, h2⟩
theorem putK_keys {kvs : List (Key × V)} {k : Key} {v : V} (h : (valV kvs k).isSome = true) : (putK kvs k v).map (·.1) = kvs.map (·.1) := by
  unfold putK
  rw [valV_any, if_pos h, List.map_map]
  congr 1
  funext kv
  show (if kv.1 = k then (kv.1, v) else kv).1 = kv.1
  split <;> rfl
theorem SumAt.put {p : Addr} {R : List Str} {f : Str → Option Int} {kvs : List (Key × V)} (h2 : ∀ t, valV kvs (Sum.inr t) = (f t).map V.int) (h3 : (kvs.map (·.1)).Nodup) (h4 : ∀ k ∈ kvs.map (·.1), k ∈ R.map Sum.inr) {y : Str} (hy : y ∈ R) (n : Int)
    {H' : Hp} (h1 : H' p = some (.dK (putK kvs (Sum.inr y) (.int n)))) : SumAt H' p R (NhM.put f y n) := by
  refine ⟨_, h1, fun t => ?_, ?_, ?_⟩
  · rw [valV_put]
    by_cases e : t = y
    · subst e; rw [if_pos rfl, NhM.put_same]; rfl
    · rw [if_neg (fun z => e (Sum.inr.inj z)), NhM.put_ne e]; exact h2 t
  · cases hv : valV kvs (Sum.inr y) with
    | none => exact nd_putK _ h3 hv
    | some x => rw [putK_keys (by rw [hv]; rfl)]; exact h3
  · cases hv : valV kvs (Sum.inr y) with
    | none =>
      rw [putK_new _ hv, List.map_append]
      intro k hk
      rcases List.mem_append.mp hk with h | h
      · exact h4 k h
      · rw [List.mem_singleton.mp h]; exact List.mem_map.mpr ⟨y, hy, rfl⟩
    | some x => rw [putK_keys (by rw [hv]; rfl)]; exact h4
theorem keys_few {R : List Str} {kvs : List (Key × V)} (h3 : (kvs.map (·.1)).Nodup) (h4 : ∀ k ∈ kvs.map (·.1), k ∈ R.map Sum.inr) : kvs.length ≤ R.length := by
  have := NhM.nodup_le (kvs.map (·.1)) (R.map Sum.inr) h3 h4
  rw [List.length_map, List.length_map] at this
  exact this
theorem ev_dgetS {σ : L2.St} {H : Hp} {td ty : TE} {p : Addr} {z : Str} {v : V} {kvs : List (Key × V)} (hd : Ev td σ H (.ref p)) (hk : Ev ty σ H (.str z)) (hp : H p = some (.dK kvs)) (hv : valV kvs (Sum.inr z) = some v) : Ev (tDGet td ty) σ H v := fun H1 e Q q =>
  hd H1 e _ fun H2 e2 => hk H2 (e.trans e2) _ fun H3 e3 => ⟨p, v, rfl, by rw [← hv]; exact DGet.k (k := Sum.inr z) ((e.trans (e2.trans e3)) p _ hp), q H3 (e2.trans e3)⟩
theorem ev_dget1S {σ : L2.St} {H : Hp} {td ty : TE} {p : Addr} {z : Str} {kvs : List (Key × V)} (hd : Ev td σ H (.ref p)) (hk : Ev ty σ H (.str z)) (hp : H p = some (.dK kvs)) : Ev (tDGet1 td ty) σ H ((valV kvs (Sum.inr z)).getD .non) := fun H1 e Q q =>
  hd H1 e _ fun H2 e2 => ⟨p, rfl, .inl ⟨kvs, .inl ((e.trans e2) p _ hp)⟩, hk H2 (e.trans e2) _ fun H3 e3 => ⟨_, DGet.k (k := Sum.inr z) ((e.trans (e2.trans e3)) p _ hp), q H3 (e2.trans e3)⟩⟩
theorem ev_dget2S {σ : L2.St} {H : Hp} {td ty tx : TE} {p : Addr} {z : Str} {x : V} {kvs : List (Key × V)} (hd : Ev td σ H (.ref p)) (hk : Ev ty σ H (.str z)) (hx : Ev tx σ H x) (hp : H p = some (.dK kvs)) : Ev (tDGet2 td ty tx) σ H ((valV kvs (Sum.inr z)).getD x) := fun H1 e Q q =>
  hd H1 e _ fun H2 e2 => ⟨p, rfl, .inl ⟨kvs, .inl ((e.trans e2) p _ hp)⟩, hk H2 (e.trans e2) _ fun H3 e3 => hx H3 ((e.trans e2).trans e3) _ fun H4 e4 => ⟨_, DGet.k (k := Sum.inr z) ((e.trans (e2.trans (e3.trans e4))) p _ hp), q H4 (e2.trans (e3.trans e4))⟩⟩
theorem ev_min2 {σ : L2.St} {H : Hp} {ta tb : TE} {i j : Int} (ha : Ev ta σ H (.int i)) (hb : Ev tb σ H (.int j)) : Ev (tCB rMin2 (tCons ta (tCons tb tNil))) σ H (.int (if j < i then j else i)) := fun H1 e Q q =>
  ha H1 e _ fun H2 e2 => hb H2 (e.trans e2) _ fun H3 e3 => ⟨i, j, rfl, q H3 (e2.trans e3)⟩
theorem den_opt {H : Hp} (o : Option Int) : Den H ((o.map V.int).getD .non) (dOpt o) := by
  cases o with
  | none => exact .non
  | some i => exact .int i
theorem bf_stp (R : List Str) (E : List Wr) (g : Str → Option Int) (i : Nat) (e : Wr) (h : E[i]? = some e) : NhM.bfL R (E.take (i + 1)) g = NhM.bfS R e.b e.a e.wd (NhM.bfS R e.a e.b e.wd (NhM.bfL R (E.take i) g)) := by
  rw [List.take_add_one, h]
  unfold NhM.bfL
  rw [Option.toList_some, List.foldl_append]
  rfl
abbrev st_least_sum : Stmt := topS 35
theorem sc_least_sum : FnScope ["town", "towers", "first", "last", "sums", "lap", "one", "other", "low", "high", "here", "late", "whole"] ["town", "towers", "first", "last"] (defScope st_least_sum) := ⟨rfl, rfl, rfl, by decide +kernel, rfl, by decide +kernel, by decide +kernel⟩
def sp_least_sum : Sp := spD (fun (i : List Str × List Wr × List Str × Str × Str) => [dTown i.1 i.2.1, dLot i.2.2.1, .str i.2.2.2.1, .str i.2.2.2.2]) (fun i => i.2.2.1.length ≤ 50 ∧ i.2.1.length ≤ 100 ∧ i.2.2.2.1 ∈ i.2.2.1) (fun i _ => Da (dOpt (NhM.bfN i.2.2.1 i.2.1 i.2.2.1.length (NhM.bf0 i.2.2.2.1) i.2.2.2.2)))
theorem ok_least_sum {f : Addr} {fd : FuncData} (D : Df K mg "least_sum" st_least_sum ["town", "towers", "first", "last"] f fd) (B : Bn mg)   : C8.Cal P w K mg base 1 "least_sum" sp_least_sum [] := by
  refine D.cal (D.F.ok (k := 0) sc_least_sum (spD_len 4 fun _ => rfl) (fun cdv A outer s H vs Q E hr h => ?_))
  obtain ⟨⟨T, E', R, s0, t0⟩, hd, ⟨hR, hE, hs⟩, q⟩ := h
  try dsimp only at hd q
  obtain ⟨u, v, x, y, rfl, hu, hv, hx, hy⟩ := hd.four
  cases hx
  cases hy
  have hu : Den H u (.tuple [dLot T, .tuple (E'.map dWire)]) := hu
  have hv : Den H v (dLot R) := hv
  have hR : R.length ≤ 50 := hR
  have hE : E'.length ≤ 100 := hE
  have hs : s0 ∈ R := hs
  have q : ∀ (v : V) (H' : Hp), Ex H H' → Den H' v (dOpt (NhM.bfN R E' R.length (NhM.bf0 s0) t0)) → Q v H' := q
  refine ⟨_, (pss_cons (ps_asg (pe_callTy (call_dictP rfl) (by rfl) B.dict (by decide +kernel) (pa_cons (pe_lst (pa_cons (pe_tup (pa_cons (pv 2) (pa_cons pe_int pa_nil))) pa_nil)) pa_nil)) (pg_name (i := 4) sc_least_sum.nd rfl (Or.inl rfl))) (pss_cons (ps_for PassesOwn.never rfl (pi_range1 (by rfl) B.range (pa_cons (pe_callB call_len_seq (by rfl) B.len boot_len (pa_cons (pv 1) pa_nil)) pa_nil)) (pg_name (i := 5) sc_least_sum.nd rfl (Or.inl rfl)) (pss_one (ps_for PassesOwn.never rfl (pi_tup (pe_ix ix_tup (pv 0) pe_int (fun _ _ => rfl))) (pg_tup (n := 4) rfl (pgs_cons (pg_name (i := 6) sc_least_sum.nd rfl (Or.inl rfl)) (pgs_cons (pg_name (i := 7) sc_least_sum.nd rfl (Or.inl rfl)) (pgs_cons (pg_name (i := 8) sc_least_sum.nd rfl (Or.inl rfl)) (pgs_cons (pg_name (i := 9) sc_least_sum.nd rfl (Or.inl rfl)) pgs_nil))))) (pss_one (ps_for PassesOwn.never rfl (pi_tup (pe_tup (pa_cons (pe_tup (pa_cons (pv 6) (pa_cons (pv 7) pa_nil))) (pa_cons (pe_tup (pa_cons (pv 7) (pa_cons (pv 6) pa_nil))) pa_nil)))) (pg_tup (n := 2) rfl (pgs_cons (pg_name (i := 10) sc_least_sum.nd rfl (Or.inl rfl)) (pgs_cons (pg_name (i := 11) sc_least_sum.nd rfl (Or.inl rfl)) pgs_nil))) (pss_one (ps_if (PW.pt (pw_and (pt_cmp (pc_din (hu_of hr) (pv 10) (pv 4))) (pw_and1 (pt_cmpR op_in_seq (pv 11) (pv 1) (by rfl))))) (pss_cons (ps_asg (pe_op op_sub (pe_op op_add (pe_dget (hu_of hr) (pv 4) (pv 10) (fun _ _ => rfl)) (pv 9)) (pv 8)) (pg_name (i := 12) sc_least_sum.nd rfl (Or.inl rfl))) (pss_one (ps_dput (hu_of hr) (pv 4) (pv 11) (pe_callB (call_min2 rfl) (by rfl) B.min (by decide +kernel) (pa_cons (pv 12) (pa_cons (pe_dget2 (hu_of hr) (pv 4) (pv 11) (pv 12) ⟨rfl, rfl, rfl, rfl⟩) pa_nil))) rfl))) pss_nil))))))) (pss_one (ps_ret (pe_dget1 (hu_of hr) (pv 4) (pv 3) ⟨rfl, rfl, rfl, rfl⟩))))), ?_⟩
  refine q_asgP (evP_dict1 (ev_var rfl) ev_c) fun pv H1 e1 hp => ?_
  obtain ⟨p, rfl, hp0, hp1⟩ := hp
  have sum0 : SumAt H1 p R (NhM.bf0 s0) := ⟨_, hp1, fun t => (by
    by_cases e : t = s0
    · subst e; rw [valV_pos rfl]; unfold NhM.bf0; rw [NhM.put_same]; rfl
    · rw [valV_neg (fun z => e (Sum.inr.inj z).symm), valV_nil]; unfold NhM.bf0; rw [NhM.put_ne e]; rfl), (by simp), fun k hk => (by rw [List.mem_singleton.mp hk]; exact List.mem_map.mpr ⟨s0, hs, rfl⟩)⟩
  refine s_forT (D := { nx := fun σ1 H1 => (tRet (tDGet1 (tVar 4) (tVar 3))) { nx := fun _ H' => Q .non H', rt := Q } σ1 H1, rt := Q }) (srcT_range (n := R.length) (fun Hx ex Qx qx => ev_lenP (EvP.var rfl (hv.ex (e1.trans ex))) Hx (Ex.refl Hx) _ fun H4 e4 => by rw [List.length_map]; exact qx H4 e4) (by omega)) (fun H2 i σ' H' => Tk H2 H' ∧ (Ex H H' ∧ SumAt H' p R (NhM.bfN R E' i (NhM.bf0 s0))) ∧ ∃ a b c d e f g h, σ' = [some u, some v, some (.str s0), some (.str t0), some (.ref p), a, b, c, d, e, f, g, h]) (fun H2 e2 => ⟨Tk.refl _, ⟨e1.trans e2, sum0.more e2⟩, _, _, _, _, _, _, _, _, rfl⟩) (fun _ _ _ _ _ p => p.1) ?_ ?_
  · rintro Hs es lap lp hlap x σ' H0 H' ⟨r1, ⟨r2, r3⟩, a, b, c, d, e, f, g, h, rfl⟩ e0 rfl
    refine evG_name H' (Ex.refl _) _ fun H4 e4 => ?_
    have x4 := r2.trans (e0.trans e4)
    have s4 := r3.more (e0.trans e4)
    have tk4 := (r1.trans (Tk.ex e0)).trans (Tk.ex e4)
    refine s_forT (srcT_P (evP_ix (i := 1) (EvP.var rfl (hu.ex x4)) ev_c rfl)) (fun H2 i σ' H' => Tk H2 H' ∧ (Ex H H' ∧ SumAt H' p R (NhM.bfL R (E'.take i) (NhM.bfN R E' lap (NhM.bf0 s0)))) ∧ ∃ a b c d e f g h, σ' = [some u, some v, some (.str s0), some (.str t0), some (.ref p), a, b, c, d, e, f, g, h]) (fun H2 e2 => ⟨Tk.refl _, ⟨x4.trans e2, s4.more e2⟩, _, _, _, _, _, _, _, _, rfl⟩) (fun _ _ _ _ _ p => p.1) ?_ ?_
    · rintro Hs1 es1 i dw hi xw σ' H5 H6 ⟨t1, ⟨t2, t3⟩, a, b, c, d, e, f, g, h, rfl⟩ e6 hw
      obtain ⟨⟨ea, eb, lo, hh⟩, hwi, rfl⟩ : ∃ e, E'[i]? = some e ∧ dw = dWire e := by
        rw [List.getElem?_map] at hi
        cases h : E'[i]? with
        | none => rw [h] at hi; cases hi
        | some e => rw [h] at hi; cases hi; exact ⟨e, rfl, rfl⟩
      obtain ⟨tw, xs, rfl, htw, hdw⟩ := Den.tuple hw
      obtain ⟨y1, y2, y3, y4, rfl, g1, g2, g3, g4⟩ := hdw.four
      cases g1
      cases g2
      cases g3
      cases g4
      have stp : NhM.bfL R (E'.take (i + 1)) (NhM.bfN R E' lap (NhM.bf0 s0)) = ([(ea, eb), (eb, ea)] : List (Str × Str)).foldl (fun f q => NhM.bfS R q.1 q.2 (hh - lo) f) (NhM.bfL R (E'.take i) (NhM.bfN R E' lap (NhM.bf0 s0))) := bf_stp _ _ _ _ _ hwi
      generalize NhM.bfL R (E'.take i) (NhM.bfN R E' lap (NhM.bf0 s0)) = f1 at t3 stp
      refine evG_quad (σ := [some u, some v, some (.str s0), some (.str t0), some (.ref p), a, b, c, d, e, f, g, h]) htw H6 (Ex.refl _) _ fun H7 e7 => ?_
      have x7 := t2.trans (e6.trans e7)
      have s7 := t3.more (e6.trans e7)
      have tk7 := (t1.trans (Tk.ex e6)).trans (Tk.ex e7)
      have pr : EvP (tTup (tCons (tTup (tCons (tVar 6) (tCons (tVar 7) tNil))) (tCons (tTup (tCons (tVar 7) (tCons (tVar 6) tNil))) tNil))) [some u, some v, some (.str s0), some (.str t0), some (.ref p), a, some (.str ea), some (.str eb), some (.int lo), some (.int hh), f, g, h] H7 (Da (PyData.tuple (([(ea, eb), (eb, ea)] : List (Str × Str)).map fun q => PyData.tuple [PyData.str q.1, PyData.str q.2]))) :=
        evP_tup (ds := [.tuple [.str ea, .str eb], .tuple [.str eb, .str ea]]) (EvP.of2 (evP_tup (EvP.of2 (evP_of_str (ev_var rfl)) (evP_of_str (ev_var rfl))) (show 2 ≤ 100000 by decide)) (evP_tup (EvP.of2 (evP_of_str (ev_var rfl)) (evP_of_str (ev_var rfl))) (show 2 ≤ 100000 by decide))) (show 2 ≤ 100000 by decide)
      have src2 := SrcT.map (Tb := fun q x H => Den H x (PyData.tuple [PyData.str q.1, PyData.str q.2])) (srcT_P (K := K) pr) (fun _ _ _ _ h => h)
      refine s_forT src2 (fun H2 j σ' H' => Tk H2 H' ∧ (Ex H H' ∧ SumAt H' p R ((([(ea, eb), (eb, ea)] : List (Str × Str)).take j).foldl (fun f q => NhM.bfS R q.1 q.2 (hh - lo) f) f1)) ∧ ∃ f g h, σ' = [some u, some v, some (.str s0), some (.str t0), some (.ref p), a, some (.str ea), some (.str eb), some (.int lo), some (.int hh), f, g, h]) (fun H2 e2 => ⟨Tk.refl _, ⟨x7.trans e2, s7.more e2⟩, _, _, _, rfl⟩) (fun _ _ _ _ _ p => p.1) ?_ ?_
      · rintro Hs2 es2 j ⟨qa, qb⟩ hj xq σ' H8 H9 ⟨v1, ⟨v2, v3⟩, f, g, h, rfl⟩ e9 hq
        have stp2 : (([(ea, eb), (eb, ea)] : List (Str × Str)).take (j + 1)).foldl (fun f q => NhM.bfS R q.1 q.2 (hh - lo) f) f1 = NhM.bfS R qa qb (hh - lo) ((([(ea, eb), (eb, ea)] : List (Str × Str)).take j).foldl (fun f q => NhM.bfS R q.1 q.2 (hh - lo) f) f1) := by
          rw [List.take_add_one, hj, Option.toList_some, List.foldl_append]
          rfl
        rw [stp2]
        generalize (([(ea, eb), (eb, ea)] : List (Str × Str)).take j).foldl (fun f q => NhM.bfS R q.1 q.2 (hh - lo) f) f1 = f2 at v3
        obtain ⟨tq, xs, rfl, htq, hdq⟩ := Den.tuple hq
        obtain ⟨y, z, rfl, hy, hz⟩ := hdq.two
        cases hy
        cases hz
        refine evG_pair (σ := [some u, some v, some (.str s0), some (.str t0), some (.ref p), a, some (.str ea), some (.str eb), some (.int lo), some (.int hh), f, g, h]) htq H9 (Ex.refl _) _ fun H10 e10 => ?_
        have x10 := v2.trans (e9.trans e10)
        have s10 := v3.more (e9.trans e10)
        have tk10 := (v1.trans (Tk.ex e9)).trans (Tk.ex e10)
        obtain ⟨kvs, k1, k2, k3, k4⟩ := s10.ex
        refine s_if (et_and (et_inD (ev_var rfl) (ev_var rfl) k1) fun _ => evP_inS' (ev_var rfl) (EvP.var rfl (hv.ex x10))) (fun hb H11 e11 => ?_) fun hb H11 e11 => ?_
        · rw [Bool.and_eq_true] at hb
          obtain ⟨hb1, hb2⟩ := hb
          have hb2 : qb ∈ R := of_decide_eq_true hb2
          rw [k2] at hb1
          cases hf : f2 qa with
          | none => rw [hf] at hb1; cases hb1
          | some m =>
            have k11 := e11 p _ k1
            have hvm : valV kvs (Sum.inr qa) = some (.int m) := by rw [k2, hf]; rfl
            refine q_asg (ev_sub (ev_add (ev_dgetS (ev_var rfl) (ev_var rfl) k11 hvm) (ev_var rfl)) (ev_var rfl)) fun H12 e12 => ?_
            have k12 := e12 p _ k11
            have hmin : Ev (tCB rMin2 (tCons (tVar 12) (tCons (tDGet2 (tVar 4) (tVar 11) (tVar 12)) tNil))) [some u, some v, some (.str s0), some (.str t0), some (.ref p), a, some (.str ea), some (.str eb), some (.int lo), some (.int hh), some (.str qa), some (.str qb), some (.int (m + hh - lo))] H12 (.int (match f2 qb with
                | some o => if m + (hh - lo) ≤ o then m + (hh - lo) else o
                | none => m + (hh - lo))) := by
              have ew : m + hh - lo = m + (hh - lo) := by omega
              cases ho : f2 qb with
              | none =>
                refine ev_is (ev_min2 (ev_var rfl) (ev_is (ev_dget2S (ev_var rfl) (ev_var rfl) (ev_var rfl) k12) (w := .int (m + hh - lo)) ?_)) ?_
                · rw [k2, ho]; rfl
                · rw [ew]; simp
              | some o =>
                refine ev_is (ev_min2 (ev_var rfl) (ev_is (ev_dget2S (ev_var rfl) (ev_var rfl) (ev_var rfl) k12) (w := .int o) ?_)) ?_
                · rw [k2, ho]; rfl
                · rw [ew]
                  congr 1
                  show (if o < m + (hh - lo) then o else m + (hh - lo)) = (if m + (hh - lo) ≤ o then m + (hh - lo) else o)
                  by_cases c : m + (hh - lo) ≤ o
                  · rw [if_pos c, if_neg (by omega)]
                  · rw [if_neg c, if_pos (by omega)]
            refine s_dputS hmin (ev_var rfl) (ev_var rfl) k12 (by have := keys_few k3 k4; omega) fun H13 e13 => ?_
            have tkp : Tk H13 (upd H13 p (.dK (putK kvs (Sum.inr qb) (.int (match f2 qb with
                | some o => if m + (hh - lo) ≤ o then m + (hh - lo) else o
                | none => m + (hh - lo)))))) := Tk.upd fun xs z => by rw [e13 p _ k12] at z; cases z
            have bs : NhM.bfS R qa qb (hh - lo) f2 = NhM.put f2 qb (match f2 qb with
                | some o => if m + (hh - lo) ≤ o then m + (hh - lo) else o
                | none => m + (hh - lo)) := by
              unfold NhM.bfS
              rw [hf]
              exact if_pos hb2
            rw [bs]
            exact ⟨(tk10.trans (Tk.ex ((e11.trans e12).trans e13))).trans tkp, ⟨(x10.trans ((e11.trans e12).trans e13)).mut hp0, SumAt.put k2 k3 k4 hb2 _ upd_same⟩, _, _, _, rfl⟩
        · have bs : NhM.bfS R qa qb (hh - lo) f2 = f2 := by
            unfold NhM.bfS
            cases hf : f2 qa with
            | none => rfl
            | some m =>
              rw [k2, hf] at hb
              have hb : qb ∉ R := by simpa using hb
              exact if_neg hb
          rw [bs]
          exact ⟨tk10.trans (Tk.ex e11), ⟨x10.trans e11, s10.more e11⟩, _, _, _, rfl⟩
      · rintro Hs2 es2 σ' H8 ⟨v1, ⟨v2, v3⟩, f, g, h, rfl⟩
        rw [stp]
        exact ⟨(tk7.trans (Tk.ex es2)).trans v1, ⟨v2, v3⟩, _, _, _, _, _, _, _, _, rfl⟩
    · rintro Hs1 es1 σ' H5 ⟨t1, ⟨t2, t3⟩, a, b, c, d, e, f, g, h, rfl⟩
      rw [List.length_map, List.take_length] at t3
      exact ⟨(tk4.trans (Tk.ex es1)).trans t1, ⟨t2, t3⟩, _, _, _, _, _, _, _, _, rfl⟩
  · rintro Hs es σ' H' ⟨r1, ⟨r2, r3⟩, a, b, c, d, e, f, g, h, rfl⟩
    rw [List.length_range] at r3
    obtain ⟨kvs, h1, h2, -, -⟩ := r3.ex
    refine s_ret (σ := [some u, some v, some (.str s0), some (.str t0), some (.ref p), a, b, c, d, e, f, g, h]) (D := { nx := fun _ H' => Q .non H', rt := Q }) (ev_dget1S (ev_var rfl) (ev_var rfl) h1) fun H5 e5 => q _ H5 (r2.trans e5) ?_
    rw [h2]
    exact den_opt _

abbrev optV (o : Option Int) : V := (o.map V.int).getD .non
theorem den_opts {H : Hp} {os : List (Option Int)} {ys : List V} (h : DenAll H ys (os.map dOpt)) : ys = os.map optV := by
  induction os generalizing ys with
  | nil => cases h; rfl
  | cons o os ih =>
    cases h with
    | cons h1 h2 =>
      rw [ih h2]
      cases o with
      | none => cases h1; rfl
      | some i => cases h1; rfl
theorem opts_in : ∀ os : List (Option Int), inV .non (os.map optV) = decide (none ∈ os)
  | [] => rfl
  | o :: os => by
    have ih := opts_in os
    unfold inV at ih ⊢
    rw [List.map_cons, List.any_cons, ih]
    cases o with
    | none => simp; exact .inl rfl
    | some i =>
      have e : eqV (optV (some i)) .non = false := rfl
      rw [e]
      simp
theorem opts_flat (os : List (Option Int)) : (os.map optV).all flatV = true := by
  rw [List.all_eq_true]
  intro v hv
  obtain ⟨o, _, rfl⟩ := List.mem_map.mp hv
  cases o <;> rfl
theorem opts_some : ∀ {os : List (Option Int)}, none ∉ os → ∃ ns : List Int, os = ns.map some
  | [], _ => ⟨[], rfl⟩
  | none :: _, h => absurd List.mem_cons_self h
  | some i :: os, h => by
    obtain ⟨ns, e⟩ := opts_some fun z => h (List.mem_cons_of_mem _ z)
    exact ⟨i :: ns, by rw [e]; rfl⟩
theorem town_flat {T : List Str} {E : List Wr} (h : TownOk T E) : NhM.Flat E := fun e he => by
  have := (h.w e he).2.2.2
  show 0 ≤ e.hi - e.lo
  omega
abbrev valC (T : List Str) (E : List Wr) (c : List Str × List Str × Str × Str) : Option Int := NhM.bfN (NhM.less (NhM.less T c.1) c.2.1) E (NhM.less (NhM.less T c.1) c.2.1).length (NhM.bf0 c.2.2.1) c.2.2.2
abbrev st_play_by : Stmt := topS 36
theorem sc_play_by : FnScope ["town", "fears", "found", "one", "other", "first", "last"] ["town", "fears"] (defScope st_play_by) := ⟨rfl, rfl, rfl, by decide +kernel, rfl, by decide +kernel, by decide +kernel⟩
def sp_play_by : Sp := spD (fun (i : List Str × List Wr × List (List Str)) => [dTown i.1 i.2.1, dFears i.2.2]) (fun i => TownOk i.1 i.2.1 ∧ FearsOk i.1 i.2.2) (fun i H v H' => ∃ r, NhM.PlaySpec i.1 i.2.1 i.2.2 r ∧ Den H' v (dOpt r))
theorem ok_play_by {f : Addr} {fd : FuncData} (D : Df K mg "play_by" st_play_by ["town", "fears"] f fd) (B : Bn mg)  (c_choices_of : C8.Cal P w K mg base 2 "choices_of" sp_choices_of []) (c_least_sum : C8.Cal P w K mg base 1 "least_sum" sp_least_sum []) (c_rest_of : C8.Cal P w K mg base 2 "rest_of" sp_rest_of []) : C8.Cal P w K mg base 3 "play_by" sp_play_by [] := by
  refine D.cal (D.F.ok (k := 2) sc_play_by (spD_len 2 fun _ => rfl) (fun cdv A outer s H vs Q E hr h => ?_))
  obtain ⟨⟨T, E', F⟩, hd, ⟨ok, ok2⟩, q⟩ := h
  try dsimp only at hd q
  obtain ⟨u, v, rfl, hu, hv⟩ := hd.two
  have hu : Den H u (.tuple [dLot T, .tuple (E'.map dWire)]) := hu
  have ok : TownOk T E' := ok
  have ok2 : FearsOk T F := ok2
  have q : ∀ (v : V) (H' : Hp), Ex H H' → (∃ r, NhM.PlaySpec T E' F r ∧ Den H' v (dOpt r)) → Q v H' := q
  have hT := ok.len
  have hE := ok.elen
  refine ⟨_, (pss_cons (ps_asg (pe_lst (pa_cons pe_int pa_nil)) (pg_name (i := 2) sc_play_by.nd rfl (Or.inl rfl))) (pss_cons (ps_for PassesOwn.never rfl (pi_list (C8.pe_c c_choices_of hr (by decide) (by rfl) (pa_cons (pv 0) (pa_cons (pv 1) pa_nil)))) (pg_tup (n := 4) rfl (pgs_cons (pg_name (i := 3) sc_play_by.nd rfl (Or.inl rfl)) (pgs_cons (pg_name (i := 4) sc_play_by.nd rfl (Or.inl rfl)) (pgs_cons (pg_name (i := 5) sc_play_by.nd rfl (Or.inl rfl)) (pgs_cons (pg_name (i := 6) sc_play_by.nd rfl (Or.inl rfl)) pgs_nil))))) (pss_one (ps_expr (pe_bm PySem.F.plainAttrs_list PySem.F.slot_list_append PySem.F.type_list_append mt_append (pv 2) (pa_cons (C8.pe_c c_least_sum hr (by decide) (by rfl) (pa_cons (pv 0) (pa_cons (C8.pe_c c_rest_of hr (by decide) (by rfl) (pa_cons (pv 0) (pa_cons (pv 3) (pa_cons (pv 4) pa_nil)))) (pa_cons (pv 5) (pa_cons (pv 6) pa_nil))))) pa_nil))))) (pss_one (ps_ret (pe_ifExp (pt_cmpR op_in_seq pe_non (pv 2) (by rfl)) pe_non (pe_callB (cr_max rfl) (by rfl) B.max (by decide +kernel) (pa_cons (pv 2) pa_nil))))))), ?_⟩
  refine q_asgP (evP_lst (ead1 evP_c_int) (show 1 ≤ 100000 by decide)) fun fv H1 e1 hf => ?_
  obtain ⟨p, ys, rfl, hp0, hp, hy⟩ := hf
  refine s_forE (D := { nx := fun σ1 H1 => (tRet (tIf (tTest (tOp (rIn K false) (tC .non) (tVar 2))) (tC .non) (tCB (rMax K) (tCons (tVar 2) tNil)))) { nx := fun _ H' => Q .non H', rt := Q } σ1 H1, rt := Q }) (γ := List (List Str × List Str × Str × Str)) (φ := fun cs => cs.length ≤ 1000 ∧ NhM.ChoicesOk T F cs) (ds := fun cs => cs.map dChoice) (evP_callR (P := fun v H' => ∃ c : List (List Str × List Str × Str × Str), (c.length ≤ 1000 ∧ NhM.ChoicesOk T F c) ∧ ND H1 (c.map dChoice) v H') (T, E', F) (EvP.of2 (EvP.var rfl (hu.ex e1)) (EvP.var rfl (hv.ex e1))) ⟨ok, ok2⟩ fun H1 v H2 e1 e2 hv => ?_) fun cs hC H2 te' e2 hte => ?_
  · obtain ⟨cs, hl, C, p, ys, rfl, hp, h2, h3⟩ := hv
    exact ⟨cs, ⟨hl, C⟩, p, ys, rfl, fresh_back e1 hp, h2, h3⟩
  obtain ⟨hcl, C⟩ := hC
  have hp2 := e2 p _ hp
  refine s_forR (srcD_new' hte (by rw [hp]; exact fun z => nomatch z) hp2 (fun xs z => nomatch z)) (fun H3 i σ' H' => Exd p H3 H' ∧ (∃ ys, H' p = some (.lst ys) ∧ DenAll H' ys ((some 0 :: (cs.take i).map (valC T E')).map dOpt)) ∧ ∃ a b c d, σ' = [some u, some v, some (.ref p), a, b, c, d]) (fun H3 e3 => ⟨Exd.refl _ _, ⟨ys, e3 p _ hp2, hy.ex (e2.trans e3)⟩, _, _, _, _, rfl⟩) (fun _ _ _ _ _ p => p.1) ?_ ?_
  · rintro Hs es i d hi x σ' H0 H' ⟨r1, ⟨ys, r2, r3⟩, a, b, c, d', rfl⟩ e0 hx
    obtain ⟨⟨one, other, s0, t0⟩, hci, tt, y, z, rfl, htt, hy', hz⟩ := choice_at hi hx
    have nt : ∀ xs, Hs p ≠ some (.tup xs) := fun xs z => by rw [es p _ hp2] at z; cases z
    have tk := (r1.tk nt).trans (Tk.ex e0)
    have hu' : Den H' u (.tuple [dLot T, .tuple (E'.map dWire)]) := (((hu.ex e1).ex e2).ex es).tk tk _ _
    refine evG_quad (σ := [some u, some v, some (.ref p), a, b, c, d']) htt H' (Ex.refl _) _ fun H4 e4 => ?_
    have hcm := List.mem_of_getElem? hci
    have hu4 := hu'.ex e4
    have hin := choice_in C hcm
    have e04 := e0.trans e4
    have hil : i < cs.length := (List.getElem?_eq_some_iff.mp hci).1
    refine s_appP (l := p) (xs := ys) (P := Da (dOpt (valC T E' (one, other, s0, t0)))) (e04 p _ r2) (ev_var rfl) (evP_callD (r := fun i : List Str × List Wr × List Str × Str × Str => dOpt (NhM.bfN i.2.2.1 i.2.1 i.2.2.1.length (NhM.bf0 i.2.2.2.1) i.2.2.2.2)) (T, E', NhM.less (NhM.less T one) other, s0, t0) (ead_cons (EvP.var rfl hu4) (ead3 (evP_callD (r := fun i : List Str × List Wr × List Str × List Str => dLot (NhM.less (NhM.less i.1 i.2.2.1) i.2.2.2)) (T, E', one, other) (ead3 (EvP.var rfl hu4) (EvP.var rfl (hy'.ex e4)) (EvP.var rfl (hz.ex e4))) (by show T.length ≤ 1000; omega)) (evP_of_str (ev_var rfl)) (evP_of_str (ev_var rfl)))) ⟨?_, ?_, hin⟩) ?_ fun w H5 e5 hw => ?_
    · have := less_len (NhM.less T one) other
      have := less_len T one
      show (NhM.less (NhM.less T one) other).length ≤ 50
      omega
    · show E'.length ≤ 100
      omega
    · rw [r3.len, List.length_map, List.length_cons, List.length_map, List.length_take]; omega
    · have e05 := e04.trans e5
      have tkp : Tk H5 (upd H5 p (.lst (ys ++ [w]))) := Tk.upd fun xs z => by rw [e05 p _ r2] at z; cases z
      refine ⟨(r1.trans (Exd.ex e05)).trans (Exd.upd _), ⟨_, upd_same, ?_⟩, _, _, _, _, rfl⟩
      rw [List.take_add_one, hci, Option.toList_some, List.map_append, ← List.cons_append, List.map_append]
      exact ((r3.ex e05).snoc hw).tk tkp _ _
  · rintro Hs es σ' H' ⟨r1, ⟨ys, r2, r3⟩, a, b, c, d, rfl⟩
    rw [List.length_map, List.take_length] at r3
    have ey := den_opts r3
    subst ey
    have x0 : Ex H H' := Ex.ofExd ((e1.trans e2).trans es) r1 hp0
    refine s_retP (P := fun v H' => ∃ r, NhM.PlaySpec T E' F r ∧ Den H' v (dOpt r)) (D := { nx := fun _ H' => Q .non H', rt := Q }) (evP_if (b := decide (none ∈ (some (0 : Int) :: cs.map (valC T E')))) (et_is (et_test (ev_op ev_c (ev_var rfl) (rv_isL (Evl.sq_of r2) rfl (opts_flat _)))) (opts_in _)) (fun hb => ?_) fun hb => ?_) fun w H3 e3 hw => q w H3 (x0.trans e3) hw
    · have hb := of_decide_eq_true hb
      refine EvP.of ev_c fun H3 e3 => ⟨none, NhM.play_none C ?_, .non⟩
      rcases List.mem_cons.mp hb with h | h
      · cases h
      · obtain ⟨c, hc, e⟩ := List.mem_map.mp h
        refine ⟨c, hc, ?_⟩
        rw [← e]
        exact NhM.bf_least (town_flat ok) (choice_in C hc)
    · have hb := of_decide_eq_false hb
      obtain ⟨ns, hns⟩ := opts_some hb
      intro H3 e3 Q' q'
      have ens : (some (0 : Int) :: cs.map (valC T E')).map optV = ns.map V.int := by rw [hns, List.map_map]; rfl
      refine ⟨_, rfl, p, ns, rfl, ?_, ?_, fun m hm hle => q' _ _ (Ex.refl _) ⟨some m, ?_, .int m⟩⟩
      · rw [← ens]; exact Evl.sq_of (e3 p _ r2)
      · have := congrArg List.length hns
        rw [List.length_cons, List.length_map, List.length_map] at this
        omega
      · have h0 : (0 : Int) ∈ ns := by
          have : some (0 : Int) ∈ ns.map some := by rw [← hns]; exact List.mem_cons_self
          obtain ⟨x, hx, e⟩ := List.mem_map.mp this
          cases e
          exact hx
        have mem : ∀ n, n ∈ ns ↔ some n ∈ (some (0 : Int) :: cs.map (valC T E')) := fun n => by
          rw [hns]
          constructor
          · intro h; exact List.mem_map.mpr ⟨n, h, rfl⟩
          · intro h
            obtain ⟨x, hx, e⟩ := List.mem_map.mp h
            cases e
            exact hx
        refine NhM.play_some C (fun c hc => ?_) (hle 0 h0) ?_
        · have hl := NhM.bf_least (E := E') (R := NhM.less (NhM.less T c.1) c.2.1) (t := c.2.2.2) (town_flat ok) (choice_in C hc)
          cases hv : valC T E' c with
          | none => exact absurd (List.mem_cons_of_mem _ (List.mem_map.mpr ⟨c, hc, hv⟩)) hb
          | some e =>
            have hv' : NhM.bfN (NhM.less (NhM.less T c.1) c.2.1) E' (NhM.less (NhM.less T c.1) c.2.1).length (NhM.bf0 c.2.2.1) c.2.2.2 = some e := hv
            rw [hv'] at hl
            exact ⟨e, hl, hle e ((mem e).mpr (List.mem_cons_of_mem _ (List.mem_map.mpr ⟨c, hc, hv⟩)))⟩
        · rcases List.mem_cons.mp ((mem m).mp hm) with h | h
          · cases h
            exact .inl rfl
          · obtain ⟨c, hc, e⟩ := List.mem_map.mp h
            have hl := NhM.bf_least (E := E') (R := NhM.less (NhM.less T c.1) c.2.1) (t := c.2.2.2) (town_flat ok) (choice_in C hc)
            have e' : NhM.bfN (NhM.less (NhM.less T c.1) c.2.1) E' (NhM.less (NhM.less T c.1) c.2.1).length (NhM.bf0 c.2.2.1) c.2.2.2 = some m := e
            rw [e'] at hl
            exact .inr ⟨c, hc, hl⟩
end
end Nh

/-! lists of lists -/
namespace Nh
open PySem PySem.Spec PyProof.Rows L2 Evl

/-- v is a list of these data -/
def LsAt (H : Hp) (v : V) (ds : List PyData) : Prop := ∃ p ys, v = .ref p ∧ H p = some (.lst ys) ∧ DenAll H ys ds
inductive LsAll (H : Hp) : List V → List (List PyData) → Prop
  | nil : LsAll H [] []
  | cons {v : V} {vs : List V} {d : List PyData} {ds : List (List PyData)} : LsAt H v d → LsAll H vs ds → LsAll H (v :: vs) (d :: ds)
def NLL (H0 : Hp) (dss : List (List PyData)) : PP := fun v H => ∃ p vs, v = .ref p ∧ H0 p = none ∧ H p = some (.lst vs) ∧ LsAll H vs dss
section
variable {H H' : Hp} {v : V} {vs ws : List V} {d : List PyData} {ds es : List (List PyData)}
theorem LsAt.ex (h : LsAt H v d) (e : Ex H H') : LsAt H' v d := by
  obtain ⟨p, ys, rfl, h1, h2⟩ := h
  exact ⟨p, ys, rfl, e p _ h1, h2.ex e⟩
theorem LsAll.ex (h : LsAll H vs ds) (e : Ex H H') : LsAll H' vs ds := by
  induction h with
  | nil => exact .nil
  | cons h1 _ ih => exact .cons (h1.ex e) ih
theorem LsAll.len (h : LsAll H vs ds) : vs.length = ds.length := by
  induction h with
  | nil => rfl
  | cons _ _ ih => rw [List.length_cons, List.length_cons, ih]
theorem LsAll.append (h : LsAll H vs ds) (h' : LsAll H ws es) : LsAll H (vs ++ ws) (ds ++ es) := by
  induction h with
  | nil => exact h'
  | cons h1 _ ih => exact .cons h1 ih
theorem LsAll.get (h : LsAll H vs ds) {i : Nat} {v : V} (e : vs[i]? = some v) : ∃ d, ds[i]? = some d ∧ LsAt H v d := by
  induction h generalizing i with
  | nil => simp at e
  | cons h1 _ ih =>
    cases i with
    | zero => simp at e; subst e; exact ⟨_, rfl, h1⟩
    | succ i => simpa using ih (by simpa using e)
theorem LsAll.at (h : LsAll H vs ds) {i : Nat} {d : List PyData} (e : ds[i]? = some d) : ∃ v, vs[i]? = some v ∧ LsAt H v d := by
  induction h generalizing i with
  | nil => simp at e
  | cons h1 _ ih =>
    cases i with
    | zero => simp at e; subst e; exact ⟨_, rfl, h1⟩
    | succ i => simpa using ih (by simpa using e)
theorem NLL.mono {H0 : Hp} (e : Ex H H') (h : NLL H0 ds v H) : NLL H0 ds v H' := by
  obtain ⟨p, vs, rfl, h1, h2, h3⟩ := h
  exact ⟨p, vs, rfl, h1, e _ _ h2, h3.ex e⟩
theorem EvP.nll {σ : L2.St} {H0 : Hp} {i : Nat} (h : σ[i]? = some (some v)) (hn : NLL H0 ds v H) : EvP (tVar i) σ H (NLL H0 ds) := EvP.of (ev_var h) fun H1 e => NLL.mono e hn
end
/-- over a new list of lists -/
theorem src_newLL {K : PySem.W.Frag} {σ : L2.St} {H H0 : Hp} {te : TE} {dss : List (List PyData)} (h : EvP te σ H (NLL H0 dss)) : Src (iList K te) σ H dss (fun ds x H' => LsAt H' x ds) := fun H1 e R q =>
  h H1 e _ fun v H2 e2 hn => by
    obtain ⟨p, vs, rfl, _, hp, hd⟩ := hn
    have hl := hd.len
    refine ⟨p, rfl, ⟨vs, Evl.sq_of hp⟩, q _ H2 (fun H => SqL K H p vs) (YAt vs) e2 (hl ▸ walk_list) (fun H3 e3 => Evl.sq_of (e3 p _ hp)) fun i x H3 H4 e3 y _ => ?_⟩
    obtain ⟨rfl, y⟩ := y
    obtain ⟨d, h1, h2⟩ := hd.get y
    exact ⟨Ex.refl _, d, h1, h2.ex e3⟩
/-- the lists that a comprehension gathers: each stood ahead of it or is made within -/
inductive LsD (D : Addr) (H : Hp) : List V → List (List PyData) → Prop
  | nil : LsD D H [] []
  | cons {p : Addr} {ys : List V} {vs : List V} {d : List PyData} {ds : List (List PyData)} : p ≠ D → H p = some (.lst ys) → DenAll H ys d → LsD D H vs ds → LsD D H (.ref p :: vs) (d :: ds)
section
variable {D : Addr} {H H' : Hp} {vs ws : List V} {ds es : List (List PyData)}
theorem LsD.exd (h : LsD D H vs ds) (e : Exd D H H') (nt : ∀ xs, H D ≠ some (.tup xs)) : LsD D H' vs ds := by
  induction h with
  | nil => exact .nil
  | cons h1 h2 h3 _ ih => exact .cons h1 (e _ _ h1 h2) (h3.tk (e.tk nt) _ _) ih
theorem LsD.snoc {p : Addr} {ys : List V} {d : List PyData} (h : LsD D H vs ds) (h1 : p ≠ D) (h2 : H p = some (.lst ys)) (h3 : DenAll H ys d) : LsD D H (vs ++ [.ref p]) (ds ++ [d]) := by
  induction h with
  | nil => exact .cons h1 h2 h3 .nil
  | cons k1 k2 k3 _ ih => exact .cons k1 k2 k3 ih
theorem LsD.all (h : LsD D H vs ds) : LsAll H vs ds := by
  induction h with
  | nil => exact .nil
  | cons h1 h2 h3 _ ih => exact .cons ⟨_, _, rfl, h2, h3⟩ ih
end
/-- what an element of such a comprehension gives -/
def LsN (H H0 : Hp) (d : List PyData) : PP := fun v H' => ∃ p ys, v = .ref p ∧ H' p = some (.lst ys) ∧ DenAll H' ys d ∧ (H p ≠ none ∨ H0 p = none)
theorem LsN.nd {H H0 : Hp} {d : List PyData} {v : V} {H' : Hp} (h : ND H0 d v H') : LsN H H0 d v H' := by
  obtain ⟨p, ys, rfl, h1, h2, h3⟩ := h
  exact ⟨p, ys, rfl, h2, h3, .inr h1⟩
theorem lcLL {α : Type} {wi : TI} {g : TG} {t : TT} {te : TE} {vs : List Nat} {σ : L2.St} {H : Hp} {as : List α} {Tx : α → V → Hp → Prop} (hs : Src wi σ H as Tx) (hn : as.length ≤ 40000) (keep : α → Bool) (f : α → List PyData)
    (turn : ∀ B, Ex H B → ∀ a ∈ as, ∀ x H', Ex B H' → Tx a x H' → ∃ σ2, EvG g x (wipe σ vs) H' σ2 ∧ wipe σ2 vs = wipe σ vs ∧ EvT t σ2 H' (keep a) ∧ (keep a = true → EvP te σ2 H' (LsN B H' (f a)))) :
    EvP (tLc wi g t te vs) σ H (NLL H ((as.filter keep).map f)) := by
  intro H1 e Q q
  refine hs H1 e _ fun J H2 G Y e2 w hG hY => fun D hD => ?_
  refine lc_it w (fun i H' => Ex H2 H' ∧ ∃ ys, H' D = some (.lst ys) ∧ ys.length ≤ i ∧ LsD D H' ys (((as.take i).filter keep).map f)) ⟨Ex.new hD, [], upd_same, Nat.le_refl _, ?_⟩ (fun i H' _ p => hG H' p.1) ?_ ?_
  · rw [List.take_zero]; exact .nil
  · rintro i x Ha Hb hi ⟨p1, ys, p2, pl, p3⟩ y
    obtain ⟨e3, a, ha, ht⟩ := hY i x Ha Hb p1 y hi
    have eb : Ex H2 Hb := p1.trans e3
    have ntA : ∀ xs, Ha D ≠ some (.tup xs) := fun xs z => by rw [p2] at z; cases z
    have hDb := e3 D _ p2
    obtain ⟨σ2, hg, hw, htt, hte⟩ := turn H2 (e.trans e2) a (List.mem_of_getElem? ha) x Hb eb ht
    refine hg Hb (Ex.refl Hb) _ fun H4 e4 => ⟨hw, htt H4 e4 _ fun H5 e5 => ?_⟩
    have e45 := e4.trans e5
    cases hk : keep a with
    | false =>
      refine (if_neg Bool.false_ne_true).mpr ?_
      refine ⟨eb.trans e45, ys, e45 D _ hDb, by omega, ?_⟩
      rw [take_filter keep ha, hk, if_neg Bool.false_ne_true, List.append_nil]
      exact p3.exd (Exd.ex (e3.trans e45)) ntA
    | true =>
      refine (if_pos rfl).mpr ?_
      refine hte hk H5 e45 _ fun v H6 e6 hv => ?_
      obtain ⟨p, zs, rfl, hp, hz, hor⟩ := hv
      have e36 := e3.trans (e45.trans e6)
      have ne : p ≠ D := by
        rintro rfl
        rcases hor with h | h
        · exact h hD
        · rw [hDb] at h; cases h
      have hD6 := e36 D _ p2
      have nt6 : ∀ xs, H6 D ≠ some (.tup xs) := fun xs z => by rw [hD6] at z; cases z
      refine ⟨ys, hD6, Evl.sz_lt (by omega), Ex.mut (p1.trans e36) hD, ys ++ [.ref p], upd_same, by rw [List.length_append]; show _ + 1 ≤ _; omega, ?_⟩
      rw [take_filter keep ha, hk, if_pos rfl, List.map_append]
      exact ((p3.exd (Exd.ex e36) ntA).snoc ne hp hz).exd (Exd.upd _) nt6
  · rintro H' ⟨p1, ys, p2, pl, p3⟩
    rw [List.take_length] at p3
    exact q _ H' (e2.trans p1) ⟨D, ys, rfl, fresh_back (e.trans e2) hD, p2, p3.all⟩
theorem lcLLY {α : Type} {wi : TI} {g : TG} {te : TE} {vs : List Nat} {σ : L2.St} {H : Hp} {as : List α} {Tx : α → V → Hp → Prop} (hs : Src wi σ H as Tx) (hn : as.length ≤ 40000) (f : α → List PyData)
    (turn : ∀ B, Ex H B → ∀ a ∈ as, ∀ x H', Ex B H' → Tx a x H' → ∃ σ2, EvG g x (wipe σ vs) H' σ2 ∧ wipe σ2 vs = wipe σ vs ∧ EvP te σ2 H' (LsN B H' (f a))) :
    EvP (tLc wi g tYes te vs) σ H (NLL H (as.map f)) := by
  have h := lcLL (t := tYes) hs hn (fun _ => true) f fun B eB a ha x H' e ht => by
    obtain ⟨σ2, h1, h2, h3⟩ := turn B eB a ha x H' e ht
    exact ⟨σ2, h1, h2, fun H1 _ _ q => q H1 (Ex.refl H1), fun _ => h3⟩
  rw [List.filter_eq_self.mpr (fun _ _ => rfl)] at h
  exact h
/-- list equality of lists of texts -/
theorem eqv_strs : ∀ a b : List Str, PyData.eqvAll (a.map .str) (b.map .str) = decide (a = b)
  | [], [] => rfl
  | [], _ :: _ => rfl
  | _ :: _, [] => rfl
  | x :: a, y :: b => by
    have ih := eqv_strs a b
    show (x == y && PyData.eqvAll (a.map .str) (b.map .str)) = _
    rw [ih]
    by_cases h : x = y
    · subst h
      have : (x == x) = true := beq_iff_eq.mpr rfl
      rw [this, Bool.true_and]
      exact decide_eq_decide.mpr ⟨fun z => by rw [z], fun z => (List.cons.inj z).2⟩
    · have : (x == y) = false := beq_eq_false_iff_ne.mpr h
      rw [this, Bool.false_and, decide_eq_false]
      intro z
      exact h (List.cons.inj z).1
theorem shaped_strs {l : List Str} (h : ∀ x ∈ l, PySem.PyData.strOk x = true) : SeqAt.shaped (.list (l.map .str)) = true := by
  have h1 : PyData.canLayAll0 (l.map .str) = true := by
    induction l with
    | nil => rfl
    | cons x l ih =>
      show (PyData.strOk x && PyData.canLayAll0 (l.map .str)) = true
      rw [ih fun y hy => h y (List.mem_cons_of_mem _ hy), h x List.mem_cons_self]
      rfl
  have h2 : ∀ l : List Str, PyData.depthAll (l.map .str) = 0 := fun l => by
    induction l with
    | nil => rfl
    | cons x l ih => show max 0 (PyData.depthAll (l.map .str)) = 0; rw [ih]; rfl
  show (PyData.canLayAll0 (l.map .str) && decide (PyData.depthAll (l.map .str) + 1 ≤ 64)) = true
  rw [h1, h2]
  rfl
theorem LsAt.dp {K : PySem.W.Frag} {H : Hp} {v : V} {ds : List PyData} (h : LsAt H v ds) : Dp K H v (.list ds) := by
  obtain ⟨p, ys, rfl, h1, h2⟩ := h
  exact .lst (Evl.sq_of h1) (DenAll.dp ds _ h2)
end Nh

namespace Nh
open PySem PySem.Spec PyProof.Rows L2 Evl
section
variable {P : Program} {w : World} {K : PySem.W.Frag} {mg : Str → Option Value} {base : Heap}

/-- sorted(xs), xs a list of lists of texts: a permutation of it -/
def rSortLL (K : PySem.W.Frag) : List V → Hp → VK → Prop := fun vs H Q => ∃ (a : Addr) (L : Lots), vs = [V.ref a] ∧ SqL K H a (L.map fun p => V.ref p.1) ∧ (∀ p ∈ L, SqL K H p.1 (p.2.map V.str)) ∧ L.length < 60 ∧
  ∀ (L' : Lots) (p : Addr), L'.Perm L → H p = none → Q (.ref p) (upd H p (.lst (L'.map fun q => V.ref q.1)))
def SortLL (P : Program) (w : World) (K : PySem.W.Frag) : Prop := ∀ X : Cx, X.calm = true → X.prog = P → X.w = w → X.K = K → X.A.units + 64 < cLine → CallR X (.builtin "sorted") (rSortLL K)
def compSc : Expr → Scope
  | .ListComp _ _ sc _ => sc
  | _ => defScope (topS 0)
def asgE : Stmt → Expr
  | .Assign _ v _ => v
  | _ => .Constant .none 0 ⟨0, 0, 0, 0⟩
abbrev st_parted : Stmt := topS 33
theorem sc_parted : FnScope ["town", "lots", "places", "k", "lot", "tower", "own", "found", "group", "long"] ["town", "lots"] (defScope st_parted) := ⟨rfl, rfl, rfl, by decide +kernel, rfl, by decide +kernel, by decide +kernel⟩

/-- which lots hold a tower -/
def ownL (L : List (List Str)) (t : Str) : List Nat := (L.zipIdx.filter fun p => decide (t ∈ p.1)).map (·.2)
abbrev dNats (l : List Nat) : List PyData := l.map fun k : Nat => PyData.int (k : Int)
abbrev dStrs (l : List Str) : List PyData := l.map PyData.str
theorem own_nil {L : List (List Str)} {t : Str} : ownL L t = [] ↔ ∀ l ∈ L, t ∉ l := by
  unfold ownL
  rw [List.map_eq_nil_iff, List.filter_eq_nil_iff]
  constructor
  · intro h l hl
    obtain ⟨i, hi⟩ := List.getElem?_of_mem hl
    have := h (l, i) (List.mem_zipIdx_iff_getElem?.mpr hi)
    simpa using this
  · rintro h ⟨l, i⟩ hp
    have := h l (List.mem_of_getElem? (List.mem_zipIdx_iff_getElem?.mp hp))
    simpa using this
theorem own_lt {L : List (List Str)} {t : Str} {k : Nat} (h : k ∈ ownL L t) : k < L.length := by
  unfold ownL at h
  obtain ⟨⟨l, i⟩, hp, rfl⟩ := List.mem_map.mp h
  have := List.mem_zipIdx_iff_getElem?.mp (List.mem_filter.mp hp).1
  exact (List.getElem?_eq_some_iff.mp this).1
/-- the groups, by the first lot that holds a tower -/
def grp (T : List Str) (L : List (List Str)) (k : Nat) : List Str := T.filter fun t => decide ((ownL L t).head? = some k)
theorem grp_perm {T : List Str} (nd : T.Nodup) {L : List (List Str)} (h3 : L.length = 3) (h : ∀ t ∈ T, ownL L t ≠ []) : ((List.range 3).map (grp T L)).flatten.Perm T := by
  have e : ((List.range 3).map (grp T L)).flatten = grp T L 0 ++ (grp T L 1 ++ grp T L 2) := by
    show ([grp T L 0, grp T L 1, grp T L 2] : List (List Str)).flatten = _
    simp
  rw [e]
  have dj : ∀ {i j : Nat}, i ≠ j → ∀ a ∈ grp T L i, ∀ b ∈ grp T L j, a ≠ b := fun {i j} hij a ha b hb z => by
    subst z
    have h1 := of_decide_eq_true (List.mem_filter.mp ha).2
    have h2 := of_decide_eq_true (List.mem_filter.mp hb).2
    rw [h1] at h2
    exact hij (Option.some.inj h2)
  have n : (grp T L 0 ++ (grp T L 1 ++ grp T L 2)).Nodup := by
    refine List.nodup_append.mpr ⟨nd.filter _, List.nodup_append.mpr ⟨nd.filter _, nd.filter _, dj (by decide)⟩, fun a ha b hb => ?_⟩
    rcases List.mem_append.mp hb with hb | hb
    · exact dj (by decide) a ha b hb
    · exact dj (by decide) a ha b hb
  refine (List.perm_ext_iff_of_nodup n nd).mpr fun t => ⟨fun ht => ?_, fun ht => ?_⟩
  · rcases List.mem_append.mp ht with ht | ht
    · exact (List.mem_filter.mp ht).1
    · rcases List.mem_append.mp ht with ht | ht
      · exact (List.mem_filter.mp ht).1
      · exact (List.mem_filter.mp ht).1
  · cases hk : ownL L t with
    | nil => exact absurd hk (h t ht)
    | cons k r =>
      have hlt : k < 3 := by rw [← h3]; exact own_lt (t := t) (by rw [hk]; exact List.mem_cons_self)
      have inG : t ∈ grp T L k := List.mem_filter.mpr ⟨ht, by rw [hk]; exact decide_eq_true rfl⟩
      rcases (show k = 0 ∨ k = 1 ∨ k = 2 by omega) with rfl | rfl | rfl
      · exact List.mem_append_left _ inG
      · exact List.mem_append_right _ (List.mem_append_left _ inG)
      · exact List.mem_append_right _ (List.mem_append_right _ inG)
theorem flat_full {α : Type} : ∀ gs : List (List α), (gs.filter fun g => decide (0 < g.length)).flatten = gs.flatten
  | [] => rfl
  | g :: gs => by
    have ih := flat_full gs
    rw [List.filter_cons]
    split
    · rw [List.flatten_cons, List.flatten_cons, ih]
    · rename_i h
      have : g = [] := List.length_eq_zero_iff.mp (by simpa using h)
      rw [ih, this]
      rfl
/-- over a list of lists that stands -/
theorem src_LL {K : PySem.W.Frag} {σ : L2.St} {H H0 : Hp} {te : TE} {v : V} {dss : List (List PyData)} (h : Ev te σ H v) (hn : NLL H0 dss v H) : Src (iList K te) σ H dss (fun ds x _ => LsAt H x ds) := fun H1 e R q =>
  h H1 e _ fun H2 e2 => by
    obtain ⟨p, vs, rfl, _, hp, hd⟩ := hn
    have hl := hd.len
    have hp2 := (e.trans e2) p _ hp
    refine ⟨p, rfl, ⟨vs, Evl.sq_of hp2⟩, q _ H2 (fun H => SqL K H p vs) (YAt vs) e2 (hl ▸ walk_list) (fun H3 e3 => Evl.sq_of (e3 p _ hp2)) fun i x H3 H4 e3 y _ => ?_⟩
    obtain ⟨rfl, y⟩ := y
    obtain ⟨d, h1, h2⟩ := hd.get y
    exact ⟨Ex.refl _, d, h1, h2⟩
theorem src_zipLL {K : PySem.W.Frag} {σ : L2.St} {H H0 : Hp} {te tl : TE} {ds : List PyData} {dss : List (List PyData)} (h : EvP te σ H (Da (.tuple ds))) (h' : EvP tl σ H (NLL H0 dss)) : Src (iZipM K (tCons te (tCons tl tNil))) σ H (ds.zip dss) (fun p x H' => PairAt (fun u H => Den H u p.1) (fun v H => LsAt H v p.2) x H') := fun H1 e R q =>
  h H1 e _ fun v H2 e2 pv => h' H2 (e.trans e2) _ fun w H3 e3 pw => by
    obtain ⟨a, xs, rfl, ha, hx⟩ := Den.tuple pv
    obtain ⟨b, vs, rfl, _, hb, hd⟩ := pw
    exact (src_zipM (K := K) (σ := σ) (te := tC (.ref a)) (tl := tC (.ref b)) (bs := dss) (PL := fun d v H => LsAt H v d) ev_c (e3 a _ ha) (hx.ex e3) ev_c hb hd.len (fun i y β h1 h2 H' e' => by
      obtain ⟨d, h3, h4⟩ := hd.get h1
      rw [h2] at h3
      cases h3
      exact h4.ex e')) H3 (Ex.refl H3) R fun J H4 G Y e4 w hG hY => q J H4 G Y ((e2.trans e3).trans e4) w hG hY
theorem zip_maps {α β γ : Type} (f : α → β) (g : α → γ) (l : List α) : (l.map f).zip (l.map g) = l.map fun a => (f a, g a) := by
  rw [List.zip_map']
theorem ev_lenLs {K : PySem.W.Frag} {σ : L2.St} {H : Hp} {te : TE} {v : V} {ds : List PyData} (h : Ev te σ H v) (hl : LsAt H v ds) : Ev (tCB (rLenS K) (tCons te tNil)) σ H (.int (ds.length : Int)) := by
  obtain ⟨p, ys, rfl, h1, h2⟩ := hl
  rw [← h2.len]
  exact ev_lenL h h1
theorem ev_ixLs {K : PySem.W.Frag} {σ : L2.St} {H : Hp} {te ti : TE} {v : V} {ds : List PyData} {d : PyData} {i : Nat} (h : Ev te σ H v) (hl : LsAt H v ds) (hi : Ev ti σ H (.int (i : Int))) (hd : ds[i]? = some d) : EvP (tOp (rIxL K) te ti) σ H (Da d) := by
  obtain ⟨p, ys, rfl, h1, h2⟩ := hl
  obtain ⟨v, hv, hdv⟩ := h2.at hd
  exact EvP.den (ev_op h hi (rv_ixL (Evl.sq_of h1) (atI_nat hv))) hdv
theorem ev_lenNLL {K : PySem.W.Frag} {σ : L2.St} {H H0 : Hp} {te : TE} {v : V} {dss : List (List PyData)} (h : Ev te σ H v) (hn : NLL H0 dss v H) : Ev (tCB (rLenS K) (tCons te tNil)) σ H (.int (dss.length : Int)) := by
  obtain ⟨p, vs, rfl, _, h1, h2⟩ := hn
  rw [← h2.len]
  exact ev_lenL h h1
theorem lls_of {H : Hp} : ∀ {gs : List (List Str)} {vs : List V}, LsAll H vs (gs.map dStrs) → ∃ L : Lots, vs = L.map (fun p => V.ref p.1) ∧ L.map (·.2) = gs ∧ ∀ p ∈ L, H p.1 = some (.lst (p.2.map V.str))
  | [], _, h => by cases h; exact ⟨[], rfl, rfl, fun p hp => nomatch hp⟩
  | g :: gs, _, h => by
    cases h with
    | cons h1 h2 =>
      obtain ⟨L, e1, e2, e3⟩ := lls_of h2
      obtain ⟨a, ys, rfl, ha, hy⟩ := h1
      rw [DenAll.strs.mp hy] at ha
      refine ⟨(a, g) :: L, by rw [e1]; rfl, by rw [← e2]; rfl, fun p hp => ?_⟩
      rcases List.mem_cons.mp hp with rfl | hp
      · exact ha
      · exact e3 p hp
theorem lls_den {H : Hp} : ∀ {L : Lots}, (∀ p ∈ L, H p.1 = some (.lst (p.2.map V.str))) → LsAll H (L.map fun p => V.ref p.1) ((L.map (·.2)).map dStrs)
  | [], _ => .nil
  | p :: L, h => .cons ⟨p.1, _, rfl, h p List.mem_cons_self, DenAll.strs.mpr rfl⟩ (lls_den fun q hq => h q (List.mem_cons_of_mem _ hq))
theorem evP_sortLL {K : PySem.W.Frag} {σ : L2.St} {H H0 : Hp} {te : TE} {gs : List (List Str)} (h : EvP te σ H (NLL H0 (gs.map dStrs))) (hl : gs.length < 60) : EvP (tCB (rSortLL K) (tCons te tNil)) σ H (fun v H' => ∃ gs' : List (List Str), gs'.Perm gs ∧ NLL H (gs'.map dStrs) v H') := fun H1 e Q q =>
  h H1 e _ fun v H2 e2 hn => by
    obtain ⟨c, vs, rfl, _, hc, hd⟩ := hn
    obtain ⟨L, rfl, rfl, at2⟩ := lls_of hd
    rw [List.length_map] at hl
    refine ⟨c, L, rfl, Evl.sq_of hc, fun p hp => Evl.sq_of (at2 p hp), hl, fun L' p pm hp => ?_⟩
    exact q _ _ (e2.trans (Ex.new hp)) ⟨L'.map (·.2), pm.map _, p, _, rfl, fresh_back (e.trans e2) hp, upd_same, lls_den fun q hq => Ex.new hp _ _ (at2 q (pm.mem_iff.mp hq))⟩
theorem LsAt.dif {K : PySem.W.Frag} {σ : L2.St} {H : Hp} {ta tb : TE} {u v : V} {a b : List Str} (h : Ev ta σ H u) (h' : Ev tb σ H v) (ha : LsAt H u (dStrs a)) (hb : LsAt H v (dStrs b)) (oa : ∀ x ∈ a, PyData.strOk x = true) (ob : ∀ x ∈ b, PyData.strOk x = true) : Ev (tOp (rNeD K) ta tb) σ H (.bl (!decide (a = b))) :=
  ev_op h h' fun H1 e Q q => ⟨_, _, (ha.ex e).dp, (hb.ex e).dp, shaped_strs oa, shaped_strs ob, by
    show Q (.bl (!PyData.eqvAll _ _)) H1
    rw [eqv_strs]
    exact q H1 (Ex.refl H1)⟩
theorem filter_dStrs (p : List Str → Bool) (q : List PyData → Bool) (h : ∀ g, q (dStrs g) = p g) : ∀ gs : List (List Str), (gs.map dStrs).filter q = (gs.filter p).map dStrs
  | [] => rfl
  | g :: gs => by
    rw [List.map_cons, List.filter_cons, List.filter_cons, h g, filter_dStrs p q h gs]
    split <;> rfl

theorem Src.mapE {α β : Type} {σ : L2.St} {H : Hp} {wi : TI} {as : List α} {Tx : α → V → Hp → Prop} {bs : List β} {f : β → α} (h : Src wi σ H as Tx) (e : as = bs.map f) : Src wi σ H bs (fun b x H' => Tx (f b) x H') := by
  subst e
  exact h.map fun _ _ _ _ h => h
theorem ev_minP {K : PySem.W.Frag} {σ : L2.St} {H H0 : Hp} {te : TE} {ns : List Int} (h : EvP te σ H (ND H0 (ns.map .int))) (hn : 0 < ns.length) : EvP (tCB (rMin K) (tCons te tNil)) σ H (fun v _ => ∃ m, v = .int m ∧ m ∈ ns ∧ ∀ y ∈ ns, m ≤ y) := fun H1 e Q q =>
  h H1 e _ fun v H2 e2 hv => by
    obtain ⟨p, ys, rfl, _, hp, hd⟩ := hv
    rw [DenAll.ints.mp hd] at hp
    exact ⟨p, ns, rfl, Evl.sq_of hp, hn, fun m hm hle => q _ H2 e2 ⟨m, rfl, hm, hle⟩⟩
theorem et_eqP {σ : L2.St} {H : Hp} {ta : TE} {j : Int} {b : Bool} {φ : Int → Prop} (h : EvP ta σ H (fun v _ => ∃ m, v = .int m ∧ φ m)) (hb : ∀ m, φ m → decide (m = j) = b) : EvT (tTest (tOp rEq ta (tC (.int j)))) σ H b := fun H1 e Q q =>
  h H1 e _ fun v H2 e2 hv => by
    obtain ⟨m, rfl, hm⟩ := hv
    refine ⟨rfl, _, rfl, ?_⟩
    have : decide (V.int m = V.int j) = b := by
      rw [← hb m hm]
      exact decide_eq_decide.mpr ⟨fun z => by injection z, fun z => by rw [z]⟩
    rw [this]
    exact q H2 e2
theorem nd_len {H0 H : Hp} {v : V} {T : List Str} {g : Str → List Nat} (h : ND H0 (T.map ((fun ds : List PyData => PyData.int (ds.length : Int)) ∘ fun t => dNats (g t))) v H) : ND H0 (T.map (PyData.int ∘ fun t => ((g t).length : Int))) v H := by
  have e : (T.map ((fun ds : List PyData => PyData.int (ds.length : Int)) ∘ fun t => dNats (g t))) = T.map (PyData.int ∘ fun t => ((g t).length : Int)) := by
    refine List.map_congr_left fun t _ => ?_
    show PyData.int ((dNats (g t)).length : Int) = PyData.int ((g t).length : Int)
    rw [List.length_map]
  rw [e] at h
  exact h
theorem ev_lenL3 {K : PySem.W.Frag} {σ : L2.St} {H : Hp} {te : TE} {L : List (List Str)} {n : Nat} (e : L.length = n) (h : EvP te σ H (Da (.tuple (L.map fun l => dLot l)))) : EvA (tCons (tCB (rLenS K) (tCons te tNil)) tNil) σ H [.int (n : Int)] := by
  subst e
  have := ev_lenP (K := K) h
  rw [List.length_map] at this
  exact ea_cons this ea_nil
theorem LsN.old {σ : L2.St} {H B H' : Hp} {te : TE} {v : V} {ds : List PyData} (h : Ev te σ H' v) (hx : LsAt H v ds) (eB : Ex H B) (e : Ex B H') : EvP te σ H' (LsN B H' ds) := EvP.of h fun H1 e1 => by
  obtain ⟨p, ys, rfl, h1, h2⟩ := hx
  have ee := (eB.trans e).trans e1
  exact ⟨p, ys, rfl, ee p _ h1, h2.ex ee, .inl (by rw [eB p _ h1]; exact fun z => nomatch z)⟩
theorem NLL.back {H H0 H1 : Hp} {v : V} {dss : List (List PyData)} (e : Ex H0 H) (h : NLL H dss v H1) : NLL H0 dss v H1 := by
  obtain ⟨p, vs, rfl, h1, h2, h3⟩ := h
  exact ⟨p, vs, rfl, fresh_back e h1, h2, h3⟩
theorem evP_ixNLL {K : PySem.W.Frag} {σ : L2.St} {H H0 : Hp} {te ti : TE} {i : Nat} {dss : List (List PyData)} {d : List PyData} (h : EvP te σ H (NLL H0 dss)) (hi : Ev ti σ H (.int (i : Int))) (hd : dss[i]? = some d) : EvP (tOp (rIxL K) te ti) σ H (fun v H' => LsAt H' v d) := fun H1 e Q q =>
  h H1 e _ fun v H2 e2 hn => hi H2 (e.trans e2) _ fun H3 e3 => by
    obtain ⟨p, vs, rfl, _, hp, hl⟩ := hn
    obtain ⟨w, hw, hat⟩ := hl.at hd
    exact ⟨p, vs, (i : Int), w, rfl, rfl, Evl.sq_of (e3 p _ hp), atI_nat hw, q w H3 (e2.trans e3) (hat.ex e3)⟩
theorem sl_toLs {K : PySem.W.Frag} {σ : L2.St} {H : Hp} {te tk : TE} {k : Nat} {v : V} {ds : List PyData} (h : Ev te σ H v) (hv : LsAt H v ds) (hk : Ev tk σ H (.int (k : Int))) : EvP (tSl (rSlL K) te tNoPart (tPart tk)) σ H (ND H (ds.take k)) := by
  obtain ⟨p, ys, rfl, h1, h2⟩ := hv
  exact sl_toL h hk h1 h2
theorem sl_fromLs {K : PySem.W.Frag} {σ : L2.St} {H : Hp} {te tk : TE} {k : Nat} {v : V} {ds : List PyData} (h : Ev te σ H v) (hv : LsAt H v ds) (hk : Ev tk σ H (.int (k : Int))) : EvP (tSl (rSlL K) te (tPart tk) tNoPart) σ H (ND H (ds.drop k)) := by
  obtain ⟨p, ys, rfl, h1, h2⟩ := hv
  exact sl_fromL h hk h1 h2
theorem evP_tupLs {K : PySem.W.Frag} {σ : L2.St} {H : Hp} {te : TE} {v : V} {ds : List PyData} (h : Ev te σ H v) (hv : LsAt H v ds) : EvP (tCB (rTupOf K) (tCons te tNil)) σ H (Da (.tuple ds)) := fun H1 e Q q =>
  h H1 e _ fun H2 e2 => by
    obtain ⟨p, ys, rfl, h1, h2⟩ := hv
    have ee := e.trans e2
    exact ⟨p, ys, rfl, .inl ⟨Evl.sq_of (ee p _ h1), fun c hc => q _ _ (e2.trans (Ex.new hc)) (.tup upd_same ((h2.ex ee).ex (Ex.new hc)))⟩⟩
/-- [*xs, a, b], lists of lists -/
theorem evP_star3 {K : PySem.W.Frag} {σ : L2.St} {H H0 : Hp} {te ta tb : TE} {ds out : List (List PyData)} {a b : List PyData} (h : EvP te σ H (NLL H0 ds)) (ha : EvP ta σ H (ND H a)) (hb : EvP tb σ H (ND H b)) (ho : out = ds ++ [a, b]) (hn : ds.length ≤ 1000) :
    EvP (tLst (StX.tStar K te (tCons ta (tCons tb tNil)))) σ H (NLL H out) := fun H1 e Q q =>
  h H1 e _ fun v H2 e2 hv => by
    obtain ⟨p, vs, rfl, _, hp, hl⟩ := hv
    refine ⟨p, vs, rfl, .inr (Evl.sq_of hp), ?_⟩
    refine ha H2 (e.trans e2) _ fun va H3 e3 pa => hb H3 ((e.trans e2).trans e3) _ fun vb H4 e4 pb => ?_
    have e14 := (e2.trans e3).trans e4
    obtain ⟨qa, ya, rfl, _, hqa, hda⟩ := pa
    obtain ⟨qb, yb, rfl, _, hqb, hdb⟩ := pb
    refine ⟨Evl.sz_of (by rw [List.length_append, hl.len]; show _ + 2 ≤ _; omega), fun c hc => ?_⟩
    have e5 := Ex.new (o := .lst (vs ++ [.ref qa, .ref qb])) hc
    refine q _ _ (e14.trans e5) ⟨c, _, rfl, fresh_back (e.trans e14) hc, upd_same, ?_⟩
    rw [ho]
    exact (hl.ex ((e3.trans e4).trans e5)).append (.cons ⟨qa, ya, rfl, e5 _ _ (e4 _ _ hqa), hda.ex (e4.trans e5)⟩ (.cons ⟨qb, yb, rfl, e5 _ _ hqb, hdb.ex e5⟩ .nil))
theorem src_P_lot {K : PySem.W.Frag} {σ : L2.St} {H : Hp} {te : TE} {l : List Str} (h : EvP te σ H (Da (dLot l))) : Src (iTup K te) σ H l (fun s x _ => x = .str s) :=
  (srcT_P h).src.map (f := PyData.str) fun b _ x H' t => by cases t; rfl
theorem src_enumT' {K : PySem.W.Frag} {σ : L2.St} {H : Hp} {te : TE} {L : List (List Str)} (h : EvP te σ H (Da (.tuple (L.map fun l => dLot l)))) : Src (iEnumT K (tCons te tNil)) σ H L.zipIdx (fun p x H' => PairAt (fun u _ => u = .int (p.2 : Int)) (fun v H => Den H v (dLot p.1)) x H') := by
  have h1 := src_enumT (K := K) (ead1 h)
  rw [List.zipIdx_map] at h1
  exact h1.map (f := Prod.map (fun l => dLot l) id) fun b _ x H' t => t

def sp_parted : Sp := spD (fun (i : List Str × List Wr × List Str × List Str × List Str) => [dTown i.1 i.2.1, .tuple [dLot i.2.2.1, dLot i.2.2.2.1, dLot i.2.2.2.2]]) (fun i => 3 ≤ i.1.length ∧ i.1.length ≤ 50 ∧ i.1.Nodup ∧ ∀ x ∈ i.1, PyData.strOk x = true) (fun i H v H' => ∃ d, Den H' v d ∧ (isNone d = true ↔ ¬ NhM.covers i.1 i.2.2.1 i.2.2.2.1 i.2.2.2.2))
theorem ok_parted {f : Addr} {fd : FuncData} (D : Df K mg "parted" st_parted ["town", "lots"] f fd) (B : Bn mg) (SL : SortLL P w K) : C8.Cal P w K mg base 1 "parted" sp_parted [] := by
  refine D.cal (D.F.ok (k := 0) sc_parted (spD_len 2 fun _ => rfl) (fun cdv A outer s H vs Q E hr h => ?_))
  have hLL := SL
  obtain ⟨⟨T, E', la, lb, lc⟩, hd, ⟨h3, h50, nd, sok⟩, q⟩ := h
  obtain ⟨u, v, rfl, hu, hv⟩ := hd.two
  have hu : Den H u (.tuple [dLot T, .tuple (E'.map dWire)]) := hu
  have hv : Den H v (.tuple (([la, lb, lc] : List (List Str)).map fun l => dLot l)) := hv
  have h3 : 3 ≤ T.length := h3
  have h50 : T.length ≤ 50 := h50
  have nd : T.Nodup := nd
  have sok : ∀ x ∈ T, PyData.strOk x = true := sok
  have q : ∀ (v : V) (H' : Hp), Ex H H' → (∃ d, Den H' v d ∧ (isNone d = true ↔ ¬ NhM.covers T la lb lc)) → Q v H' := q
  have cov : NhM.covers T la lb lc ↔ ∀ t ∈ T, ownL [la, lb, lc] t ≠ [] := by
    constructor
    · intro h t ht z
      have := own_nil.mp z
      rcases h t ht with k | k | k
      · exact this la (by simp) k
      · exact this lb (by simp) k
      · exact this lc (by simp) k
    · intro h t ht
      refine Classical.byContradiction fun z => h t ht (own_nil.mpr fun l hl hm => z ?_)
      simp at hl
      rcases hl with rfl | rfl | rfl
      · exact .inl hm
      · exact .inr (.inl hm)
      · exact .inr (.inr hm)
  have hL3 : ([la, lb, lc] : List (List Str)).length = 3 := rfl
  generalize ([la, lb, lc] : List (List Str)) = L at hv cov hL3
  refine ⟨_, (pss_cons (ps_asg (pe_lc (own := [("tower", 5)]) (g := (gName 5)) (tt := tYes) (te := (tLc (iEnumT K (tCons (tVar 1) tNil)) (gTup K 2 (gCons (gName 3) (gCons (gName 4) gNil))) (tTest (tOp (rIn K false) (tVar 5) (tVar 4))) (tVar 3) [3, 4])) rfl sc_parted.nd (pi_tup (pe_ix ix_tup (pv 0) pe_int (fun _ _ => rfl))) (blkOk_by (N := ["town", "lots", "places", "k", "lot", "tower", "own", "found", "group", "long"]) (sc := defScope st_parted) (by decide +kernel)) (fun _ _ _ _ _ => (pg_name (i := 5) sc_parted.nd rfl (Or.inr rfl))) (fun _ _ _ _ _ => pts_nil) (fun _ _ _ _ _ => (pe_lc (own := [("k", 3), ("lot", 4)]) (g := (gTup K 2 (gCons (gName 3) (gCons (gName 4) gNil)))) (tt := (tTest (tOp (rIn K false) (tVar 5) (tVar 4)))) (te := (tVar 3)) rfl sc_parted.nd (pi_enumT (by rfl) B.enumerate (pa_cons (pv 1) pa_nil)) (blkOk_by (N := ["town", "lots", "places", "k", "lot", "tower", "own", "found", "group", "long"]) (sc := { kind := .function, names := [(".0", .local), ("tower", .cell), ("enumerate", .globalImplicit), ("lots", .cell)], isGenerator := false, isCoroutine := false }) (by decide +kernel)) (fun _ _ _ _ _ => (pg_tup (n := 2) rfl (pgs_cons (pg_name (i := 3) sc_parted.nd rfl (Or.inl rfl)) (pgs_cons (pg_name (i := 4) sc_parted.nd rfl (Or.inl rfl)) pgs_nil)))) (fun _ _ _ _ _ => (pts_one (pt_cmpR op_in_seq (pv 5) (pv 4) (by rfl)))) (fun _ _ _ _ _ => (pv 3))))) (pg_name (i := 2) sc_parted.nd rfl (Or.inr rfl))) (pss_cons (ps_if (pt_cmpR op_eq (pe_callB (cr_min rfl) (by rfl) B.min (by decide +kernel) (pa_cons (pe_lc (own := [("own", 6)]) (g := (gName 6)) (tt := tYes) (te := (tCB (rLenS K) (tCons (tVar 6) tNil))) rfl sc_parted.nd (pi_list (pv 2)) (blkOk_by (N := ["town", "lots", "places", "k", "lot", "tower", "own", "found", "group", "long"]) (sc := defScope st_parted) (by decide +kernel)) (fun _ _ _ _ _ => (pg_name (i := 6) sc_parted.nd rfl (Or.inl rfl))) (fun _ _ _ _ _ => pts_nil) (fun _ _ _ _ _ => (pe_callB call_len_seq (by rfl) B.len boot_len (pa_cons (pv 6) pa_nil)))) pa_nil)) pe_int (nomark _)) (pss_one (ps_ret pe_non)) pss_nil) (pss_cons (ps_setLc (i := 7) (own := [("k", 3)]) (g := (gName 3)) (tt := tYes) (te := (tLc (iZipM K (tCons (tOp (rIxT K) (tVar 0) (tC (.int 0))) (tCons (tVar 2) tNil))) (gTup K 2 (gCons (gName 5) (gCons (gName 6) gNil))) (tTest (tOp rEq (tOp (rIxL K) (tVar 6) (tC (.int 0))) (tVar 3))) (tVar 5) [5, 6])) rfl sc_parted.nd rfl rfl (sw_true rfl rfl rfl (by decide +kernel)) (pi_range1 (by rfl) B.range (pa_cons (pe_callB call_len_seq (by rfl) B.len boot_len (pa_cons (pv 1) pa_nil)) pa_nil)) (blkOk_by (N := ["town", "lots", "places", "k", "lot", "tower", "own", "found", "group", "long"]) (sc := defScope st_parted) (by decide +kernel)) (fun _ _ _ _ _ => (pg_name (i := 3) sc_parted.nd rfl (Or.inr rfl))) (fun _ _ _ _ _ => pts_nil) (fun _ _ _ _ _ => (pe_lc (own := [("tower", 5), ("own", 6)]) (g := (gTup K 2 (gCons (gName 5) (gCons (gName 6) gNil)))) (tt := (tTest (tOp rEq (tOp (rIxL K) (tVar 6) (tC (.int 0))) (tVar 3)))) (te := (tVar 5)) rfl sc_parted.nd (pi_zipM (by rfl) B.zip (pa_cons (pe_ix ix_tup (pv 0) pe_int (fun _ _ => rfl)) (pa_cons (pv 2) pa_nil))) (blkOk_by (N := ["town", "lots", "places", "k", "lot", "tower", "own", "found", "group", "long"]) (sc := { kind := .function, names := [(".0", .local), ("k", .cell), ("zip", .globalImplicit), ("places", .cell), ("town", .cell)], isGenerator := false, isCoroutine := false }) (by decide +kernel)) (fun _ _ _ _ _ => (pg_tup (n := 2) rfl (pgs_cons (pg_name (i := 5) sc_parted.nd rfl (Or.inl rfl)) (pgs_cons (pg_name (i := 6) sc_parted.nd rfl (Or.inl rfl)) pgs_nil)))) (fun _ _ _ _ _ => (pts_one (pt_cmpR op_eq (pe_ix ix_list (pv 6) pe_int (fun _ _ => rfl)) (pv 3) (nomark _)))) (fun _ _ _ _ _ => (pv 5))))) (pss_cons (ps_asg (pe_callB (hLL _ rfl rfl rfl rfl hr.units) (by rfl) B.sorted (by decide +kernel) (pa_cons (pe_lc (own := [("group", 8)]) (g := (gName 8)) (tt := (tTest (tOp (rI0 fun i j => .bl (decide (j < i))) (tCB (rLenS K) (tCons (tVar 8) tNil)) (tC (.int 0))))) (te := (tVar 8)) rfl sc_parted.nd (pi_list (pv 7)) (blkOk_by (N := ["town", "lots", "places", "k", "lot", "tower", "own", "found", "group", "long"]) (sc := defScope st_parted) (by decide +kernel)) (fun _ _ _ _ _ => (pg_name (i := 8) sc_parted.nd rfl (Or.inl rfl))) (fun _ _ _ _ _ => (pts_one (pt_cmpR op_gt (pe_callB call_len_seq (by rfl) B.len boot_len (pa_cons (pv 8) pa_nil)) pe_int (nomark _)))) (fun _ _ _ _ _ => (pv 8))) pa_nil)) (pg_name (i := 7) sc_parted.nd rfl (Or.inl rfl))) (pss_cons (ps_while PassesOwn.never (pt_cmpR op_lt (pe_callB call_len_seq (by rfl) B.len boot_len (pa_cons (pv 7) pa_nil)) pe_int (nomark _)) (pss_cons (ps_asg (pe_ix ix_list (pe_lc (own := [("group", 8)]) (g := (gName 8)) (tt := (tTest (tOp (rI0 fun i j => .bl (decide (j < i))) (tCB (rLenS K) (tCons (tVar 8) tNil)) (tC (.int 1))))) (te := (tVar 8)) rfl sc_parted.nd (pi_list (pv 7)) (blkOk_by (N := ["town", "lots", "places", "k", "lot", "tower", "own", "found", "group", "long"]) (sc := defScope st_parted) (by decide +kernel)) (fun _ _ _ _ _ => (pg_name (i := 8) sc_parted.nd rfl (Or.inl rfl))) (fun _ _ _ _ _ => (pts_one (pt_cmpR op_gt (pe_callB call_len_seq (by rfl) B.len boot_len (pa_cons (pv 8) pa_nil)) pe_int (nomark _)))) (fun _ _ _ _ _ => (pv 8))) pe_int (fun _ _ => rfl)) (pg_name (i := 9) sc_parted.nd rfl (Or.inr rfl))) (pss_one (ps_asg (pe_callB (hLL _ rfl rfl rfl rfl hr.units) (by rfl) B.sorted (by decide +kernel) (pa_cons (pe_lst (StX.pa_star (pe_lc (own := [("group", 8)]) (g := (gName 8)) (tt := (tTest (tOp (rNeD K) (tVar 8) (tVar 9)))) (te := (tVar 8)) rfl sc_parted.nd (pi_list (pv 7)) (blkOk_by (N := ["town", "lots", "places", "k", "lot", "tower", "own", "found", "group", "long"]) (sc := defScope st_parted) (by decide +kernel)) (fun _ _ _ _ _ => (pg_name (i := 8) sc_parted.nd rfl (Or.inl rfl))) (fun _ _ _ _ _ => (pts_one (pt_cmpR (op_neD (units64 hr)) (pv 8) (pv 9) (nomark _)))) (fun _ _ _ _ _ => (pv 8))) (pa_cons (pe_slice sl_list (pv 9) po_none (po_some pe_int)) (pa_cons (pe_slice sl_list (pv 9) (po_some pe_int) po_none) pa_nil)))) pa_nil)) (pg_name (i := 7) sc_parted.nd rfl (Or.inl rfl)))))) (pss_one (ps_ret (pe_callTy call_tuple_of (by rfl) B.tuple (by decide +kernel) (pa_cons (pe_lc (own := [("group", 8)]) (g := (gName 8)) (tt := tYes) (te := (tCB (rTupOf K) (tCons (tVar 8) tNil))) rfl sc_parted.nd (pi_list (pv 7)) (blkOk_by (N := ["town", "lots", "places", "k", "lot", "tower", "own", "found", "group", "long"]) (sc := defScope st_parted) (by decide +kernel)) (fun _ _ _ _ _ => (pg_name (i := 8) sc_parted.nd rfl (Or.inl rfl))) (fun _ _ _ _ _ => pts_nil) (fun _ _ _ _ _ => (pe_callTy call_tuple_of (by rfl) B.tuple (by decide +kernel) (pa_cons (pv 8) pa_nil)))) pa_nil))))))))), ?_⟩
  refine q_asgP (lcLLY (src_P_lot (evP_ix (i := 0) (EvP.var rfl hu) ev_c rfl)) (by omega) (fun t => dNats (ownL L t)) fun B eB t ht x H' e hx => ⟨_, evG_name, rfl, ?_⟩) fun pv H1 e1 hp => ?_
  · subst hx
    refine (lcL (src_enumT' (EvP.var rfl (hv.ex (eB.trans e)))) (by rw [List.length_zipIdx]; omega) (fun p => decide (t ∈ p.1)) (fun p => .int (p.2 : Int)) ?_).imp fun v H1 _ h => LsN.nd (by unfold dNats ownL; rw [List.map_map]; exact h)
    rintro ⟨l, k⟩ hm x H2 e2 ⟨T', y, z, rfl, hT, rfl, hz⟩
    exact ⟨_, evG_pair hT, rfl, evP_inS' (ev_var rfl) (EvP.var rfl hz), fun _ => evP_of_int (ev_var rfl)⟩
  have hu1 := hu.ex e1
  have hv1 := hv.ex e1
  refine s_if (D := { nx := _, rt := Q }) (b := T.any fun t => (ownL L t).isEmpty) (et_eqP (ev_minP (K := K) (ns := T.map fun t => ((ownL L t).length : Int)) ((lcY (src_newLL (EvP.nll rfl hp)) (by rw [List.length_map]; omega) (fun ds => PyData.int (ds.length : Int)) fun ds _ x H' e hx => ⟨_, evG_name, rfl, evP_of_int (ev_lenLs (ev_var rfl) hx)⟩).imp fun v H2 _ h => by rw [List.map_map] at h; rw [List.map_map]; exact nd_len h) (by rw [List.length_map]; omega)) fun m hm => ?_) (fun hb H2 e2 => ?_) fun hb H2 e2 => ?_
  · obtain ⟨h1, h2⟩ := hm
    by_cases c : ∃ t ∈ T, ownL L t = []
    · obtain ⟨t, ht, ez⟩ := c
      have hle : m ≤ 0 := by
        have := h2 _ (List.mem_map.mpr ⟨t, ht, rfl⟩)
        rw [ez] at this
        exact this
      obtain ⟨t', ht', em⟩ := List.mem_map.mp h1
      have e0 : m = 0 := by omega
      rw [decide_eq_true e0, eq_comm, List.any_eq_true]
      exact ⟨t, ht, by rw [ez]; rfl⟩
    · obtain ⟨t', ht', em⟩ := List.mem_map.mp h1
      have hpos : 0 < (ownL L t').length := List.length_pos_iff.mpr fun z => c ⟨t', ht', z⟩
      rw [decide_eq_false (by omega), eq_comm, Bool.eq_false_iff]
      intro h
      obtain ⟨t, ht, hz⟩ := List.any_eq_true.mp h
      exact c ⟨t, ht, List.isEmpty_iff.mp hz⟩
  · refine s_ret ev_c fun H3 e3 => q _ H3 ((e1.trans e2).trans e3) ⟨.none, .non, ⟨fun _ z => ?_, fun _ => rfl⟩⟩
    obtain ⟨t, ht, hz⟩ := List.any_eq_true.mp hb
    exact cov.mp z t ht (List.isEmpty_iff.mp hz)
  have hall : ∀ t ∈ T, ownL L t ≠ [] := fun t ht z => by
    have : (T.any fun t => (ownL L t).isEmpty) = true := List.any_eq_true.mpr ⟨t, ht, by rw [z]; rfl⟩
    rw [hb] at this
    cases this
  have hcov := cov.mpr hall
  have hu2 := hu1.ex e2
  have hv2 := hv1.ex e2
  have hp2 := NLL.mono e2 hp
  have e02 := e1.trans e2
  refine q_asgP (lcLLY (src_range (n := 3) (ev_lenL3 (by rw [← hL3]) (EvP.var rfl hv2)) (by omega)) (by decide) (fun k => dStrs (grp T L k)) fun B eB k hk x H' e hx => ⟨_, evG_name, rfl, ?_⟩) fun fv H3 e3 hf => ?_
  · subst hx
    have eBH := eB.trans e
    refine (lcL ((src_zipLL (evP_ix (i := 0) (EvP.var rfl (hu2.ex eBH)) ev_c rfl) (EvP.nll rfl (NLL.mono eBH hp2))).mapE (zip_maps PyData.str (fun t => dNats (ownL L t)) T)) (by omega) (fun t => decide ((ownL L t).head? = some k)) PyData.str ?_).imp fun v H1 _ h => LsN.nd h
    rintro t ht x H4 e4 ⟨T', y, z, rfl, hT, hy, hz⟩
    cases hy
    cases ho : ownL L t with
    | nil => exact absurd ho (hall t ht)
    | cons k0 r =>
      refine ⟨_, evG_pair hT, rfl, ?_, fun _ => EvP.den (ev_var rfl) (.str t)⟩
      rw [ho] at hz
      refine et_is (et_test (ev_eqI (EvP.int (ev_ixLs (i := 0) (ev_var rfl) hz ev_c rfl)) (ev_var rfl))) ?_
      show decide ((k0 : Int) = (k : Int)) = decide (some k0 = some k)
      exact decide_eq_decide.mpr ⟨fun z => by rw [Int.ofNat.inj z], fun z => by rw [Option.some.inj z]⟩
  have gp := grp_perm nd hL3 hall
  refine q_asgP (evP_sortLL (H0 := H3) (gs := ((List.range 3).map (grp T L)).filter fun g => decide (0 < g.length)) ((lcLL (src_LL (ev_var rfl) hf) (show 3 ≤ 40000 by decide) (fun ds => decide (0 < ds.length)) id fun B eB ds _ x H' e hx => ⟨_, evG_name, rfl, et_is (et_test (ev_gt (ev_lenLs (ev_var rfl) (hx.ex (eB.trans e))) ev_c)) (decide_eq_decide.mpr (by omega)), fun _ => LsN.old (ev_var rfl) hx eB e⟩).imp fun v H1 _ h => ?_) ?_) fun gv H4 e4 hg => ?_
  · have em : (List.range 3).map (fun k => dStrs (grp T L k)) = ((List.range 3).map (grp T L)).map dStrs := by rw [List.map_map]; rfl
    rw [List.map_id, em, filter_dStrs (fun g => decide (0 < g.length)) _ (fun g => by simp [dStrs])] at h
    exact h
  · exact Nat.lt_of_le_of_lt (List.length_filter_le _ _) (show 3 < 60 by decide)
  obtain ⟨gs, gperm, hgn⟩ := hg
  have gflat : gs.flatten.Perm T := (gperm.flatten.trans (by rw [flat_full])).trans gp
  have gGr : NhM.Gr gs := ⟨fun g hg z => by
    have := (List.mem_filter.mp (gperm.mem_iff.mp hg)).2
    rw [z] at this
    exact absurd this (by decide), gflat.nodup_iff.mpr nd⟩
  have glen : gs.length ≤ 3 := by
    rw [gperm.length_eq]
    exact Nat.le_trans (List.length_filter_le _ _) (show 3 ≤ 3 by decide)
  refine q_while (W := fun n σ' H' => ∃ gs : List (List Str), n = 3 - gs.length ∧ NhM.Gr gs ∧ gs.length ≤ 3 ∧ gs.flatten.Perm T ∧ Ex H H' ∧ ∃ w a b c d e f g, σ' = [some u, some v, a, b, c, d, e, some w, f, g] ∧ NLL H (gs.map dStrs) w H') _ ⟨gs, rfl, gGr, glen, gflat, (e02.trans e3).trans e4, gv, _, _, _, _, _, _, _, rfl, NLL.back (e02.trans e3) hgn⟩ ?_
  clear hgn gGr glen gflat gperm gs
  rintro n σ' H' ⟨gs, rfl, gGr, glen, gflat, ex, w, a, b, c, d, e, f, g, rfl, hw⟩
  have hsok : ∀ g ∈ gs, ∀ x ∈ g, PyData.strOk x = true := fun g hg x hx => sok x (gflat.mem_iff.mp (List.mem_flatten.mpr ⟨g, hg, hx⟩))
  refine ⟨_, et_test (ev_lt (ev_lenNLL (ev_var rfl) hw) ev_c), fun hb H5 e5 => ?_, fun hb H5 e5 => ?_⟩
  · have hb : gs.length < 3 := by
      have := of_decide_eq_true hb
      rw [List.length_map] at this
      have t2 : ((gs.length : Nat) : Int) < 3 := this
      omega
    have hw5 := NLL.mono e5 hw
    refine ⟨fun σ2 H2 => ∃ gs' : List (List Str), 3 - gs'.length < 3 - gs.length ∧ NhM.Gr gs' ∧ gs'.length ≤ 3 ∧ gs'.flatten.Perm T ∧ Ex H H2 ∧ ∃ w a b c d e f g, σ2 = [some u, some v, a, b, c, d, e, some w, f, g] ∧ NLL H (gs'.map dStrs) w H2, fun σ2 H2 h => ?_, ?_⟩
    · obtain ⟨gs', h1, h2, h3, h4, h5, h6⟩ := h
      exact ⟨_, h1, gs', rfl, h2, h3, h4, h5, h6⟩
    obtain ⟨g0, hg0, hg1⟩ := gGr.long hb (by rw [gflat.length_eq]; exact h3)
    -- the first long group
    obtain ⟨lg, rest, hlg⟩ : ∃ lg rest, gs.filter (fun g => decide (1 < g.length)) = lg :: rest := by
      cases hh : gs.filter (fun g => decide (1 < g.length)) with
      | nil => exact absurd (List.filter_eq_nil_iff.mp hh g0 hg0) (by simp [hg1])
      | cons lg rest => exact ⟨lg, rest, rfl⟩
    have hlm : lg ∈ gs.filter (fun g => decide (1 < g.length)) := by rw [hlg]; exact List.mem_cons_self
    have hlin := (List.mem_filter.mp hlm).1
    have hll : 1 < lg.length := of_decide_eq_true (List.mem_filter.mp hlm).2
    refine q_asgP (P := fun v H' => LsAt H' v (dStrs lg)) (evP_ixNLL (i := 0) (lcLL (src_LL (ev_var rfl) hw5) (by rw [List.length_map]; omega) (fun ds => decide (1 < ds.length)) id fun B eB ds _ x H' e hx => ⟨_, evG_name, rfl, et_is (et_test (ev_gt (ev_lenLs (ev_var rfl) (hx.ex (eB.trans e))) ev_c)) (decide_eq_decide.mpr (by omega)), fun _ => LsN.old (ev_var rfl) hx eB e⟩) ev_c (by
      rw [List.map_id, filter_dStrs (fun g => decide (1 < g.length)) _ (fun g => by simp [dStrs]), hlg]
      rfl)) fun lv H6 e6 hlv => ?_
    have sp := gGr.split hlin hll
    have hw6 := NLL.mono e6 hw5
    refine s_asgP (i := 7) (evP_sortLL (H0 := H6) (gs := NhM.splitG gs lg) (evP_star3 (H0 := H6) (ds := ((gs.filter fun k => !decide (k = lg)).map dStrs)) ((lcLL (src_LL (ev_var rfl) hw6) (by rw [List.length_map]; omega) (fun ds => !PyData.eqvAll ds (dStrs lg)) id fun B eB ds hds x H' e hx => ?_).imp fun v H7 _ h => ?_) (sl_toLs (k := 1) (ev_var rfl) hlv ev_c) (sl_fromLs (k := 1) (ev_var rfl) hlv ev_c) ?_ ?_) ?_) fun gv' H7 e7 hg => ?_
    · obtain ⟨g, hg, rfl⟩ := List.mem_map.mp hds
      refine ⟨_, evG_name, rfl, et_is (et_test (LsAt.dif (ev_var rfl) (ev_var rfl) (hx.ex (eB.trans e)) (hlv.ex (eB.trans e)) (hsok g hg) (hsok lg hlin))) (by rw [eqv_strs]), fun _ => LsN.old (ev_var rfl) hx eB e⟩
    · rw [List.map_id, filter_dStrs (fun k => !decide (k = lg)) _ (fun g => by rw [eqv_strs])] at h
      exact h
    · unfold NhM.splitG
      rw [List.map_append]
      have et : (dStrs lg).take 1 = dStrs (lg.take 1) := by show (lg.map _).take 1 = _; rw [← List.map_take]
      have ed : (dStrs lg).drop 1 = dStrs (lg.drop 1) := by show (lg.map _).drop 1 = _; rw [← List.map_drop]
      rw [et, ed]
      rfl
    · rw [List.length_map]
      exact Nat.le_trans (List.length_filter_le _ _) (by omega)
    · rw [sp.2.1]; omega
    obtain ⟨gs', gperm, hgn⟩ := hg
    refine ⟨gs', ?_, sp.1.perm gperm, ?_, (gperm.flatten.trans sp.2.2).trans gflat, ((ex.trans e5).trans e6).trans e7, gv', _, _, _, _, _, _, _, rfl, NLL.back ((ex.trans e5).trans e6) hgn⟩
    · rw [gperm.length_eq, sp.2.1]; omega
    · rw [gperm.length_eq, sp.2.1]; omega
  · have hw5 := NLL.mono e5 hw
    refine s_retP (D := { nx := fun _ H' => Q .non H', rt := Q }) (evP_tupleOf ((lcY (src_LL (ev_var rfl) hw5) (by rw [List.length_map]; omega) (fun ds => PyData.tuple ds) fun ds _ x H' e hx => ⟨_, evG_name, rfl, evP_tupLs (ev_var rfl) (hx.ex e)⟩))) fun v H6 e6 hv => ?_
    exact q v H6 ((ex.trans e5).trans e6) ⟨_, hv, ⟨(fun z => nomatch z), (fun z => absurd hcov z)⟩⟩
end
end Nh

namespace Nh
open PySem PySem.Spec PyProof.Rows L2 Evl
section
variable {P : Program} {w : World} {K : PySem.W.Frag} {mg : Str → Option Value} {base : Heap}

theorem covers_swap {T a b c : List Str} (h : NhM.covers T a b c) : NhM.covers T b a c := fun t ht => by
  rcases h t ht with k | k | k
  · exact .inr (.inl k)
  · exact .inl k
  · exact .inr (.inr k)
theorem nm_ok {x : Str} (h : nameOk x) : PyData.strOk x = true := by
  unfold PyData.strOk
  rw [Array.all_eq_true']
  intro c hc
  have := h.2.2 c (by simpa using hc)
  have k : ∀ c ∈ letters.cps.toList, c < 0x110000 := by decide +kernel
  exact decide_eq_true (k c this)
theorem asc_nodup {l : List Str} (h : l.Pairwise ltS) : l.Nodup := h.imp fun {a b} hab e => by
  subst e
  exact ltS_irr a hab
theorem not_three {T : List Str} {F : List (List Str)} (h : ∀ p ∈ twos F, ∀ c ∈ F, ¬ NhM.covers T p.1 p.2 c) : ¬ NhM.Three T F := by
  rintro ⟨_, a, ha, b, hb, c, hc, hcov⟩
  rcases twos_full ha hb with k | k
  · exact h _ k c hc hcov
  · exact h _ k c hc (covers_swap hcov)
abbrev st_three_by : Stmt := topS 34
theorem sc_three_by : FnScope ["town", "fears", "one", "other", "late", "found"] ["town", "fears"] (defScope st_three_by) := ⟨rfl, rfl, rfl, by decide +kernel, rfl, by decide +kernel, by decide +kernel⟩
def sp_three_by : Sp := spD (fun (i : List Str × List Wr × List (List Str)) => [dTown i.1 i.2.1, dFears i.2.2]) (fun i => TownOk i.1 i.2.1 ∧ FearsOk i.1 i.2.2) (fun i H v H' => ∃ d, Den H' v d ∧ (isNone d = true ↔ ¬ NhM.Three i.1 i.2.2))
theorem ok_three_by {f : Addr} {fd : FuncData} (D : Df K mg "three_by" st_three_by ["town", "fears"] f fd) (B : Bn mg)  (c_twos_of : C8.Cal P w K mg base 1 "twos_of" sp_twos_of []) (c_parted : C8.Cal P w K mg base 1 "parted" sp_parted []) : C8.Cal P w K mg base 2 "three_by" sp_three_by [] := by
  refine D.cal (D.F.ok (k := 1) sc_three_by (spD_len 2 fun _ => rfl) (fun cdv A outer s H vs Q E hr h => ?_))
  obtain ⟨⟨T, E', F⟩, hd, ⟨ok, ok2⟩, q⟩ := h
  try dsimp only at hd q
  obtain ⟨u, v, rfl, hu, hv⟩ := hd.two
  have hu : Den H u (.tuple [dLot T, .tuple (E'.map dWire)]) := hu
  have hv : Den H v (.tuple (F.map fun l => dLot l)) := hv
  have ok : TownOk T E' := ok
  have ok2 : FearsOk T F := ok2
  have q : ∀ (v : V) (H' : Hp), Ex H H' → (∃ d, Den H' v d ∧ (isNone d = true ↔ ¬ NhM.Three T F)) → Q v H' := q
  have hT := ok.len
  have hF := ok2.len
  refine ⟨_, (pss_cons (ps_if (pt_cmpR op_lt (pe_callB call_len_seq (by rfl) B.len boot_len (pa_cons (pe_ix ix_tup (pv 0) pe_int (fun _ _ => rfl)) pa_nil)) pe_int (nomark _)) (pss_one (ps_ret pe_non)) pss_nil) (pss_cons (ps_for PassesOwn.never rfl (pi_list (C8.pe_c c_twos_of hr (by decide) (by rfl) (pa_cons (pv 1) pa_nil))) (pg_tup (n := 2) rfl (pgs_cons (pg_name (i := 2) sc_three_by.nd rfl (Or.inl rfl)) (pgs_cons (pg_name (i := 3) sc_three_by.nd rfl (Or.inl rfl)) pgs_nil))) (pss_one (ps_for PassesOwn.never rfl (pi_tup (pv 1)) (pg_name (i := 4) sc_three_by.nd rfl (Or.inl rfl)) (pss_cons (ps_asg (C8.pe_c c_parted hr (by decide) (by rfl) (pa_cons (pv 0) (pa_cons (pe_tup (pa_cons (pv 2) (pa_cons (pv 3) (pa_cons (pv 4) pa_nil)))) pa_nil))) (pg_name (i := 5) sc_three_by.nd rfl (Or.inl rfl))) (pss_one (ps_if (pt_cmpR op_notN (pv 5) pe_non (nomark _)) (pss_one (ps_ret (pv 5))) pss_nil)))))) (pss_one (ps_ret pe_non)))), ?_⟩
  refine s_if (D := { nx := _, rt := Q }) (et_test (ev_lt (ev_lenP (evP_ix (i := 0) (EvP.var rfl hu) ev_c rfl)) ev_c)) (fun hb H1 e1 => ?_) fun hb H1 e1 => ?_
  · have hb := of_decide_eq_true hb
    rw [List.length_map] at hb
    exact s_ret ev_c fun H2 e2 => q _ H2 (e1.trans e2) ⟨.none, .non, ⟨fun _ z => by have := z.1; have t2 : ((T.length : Nat) : Int) < 3 := hb; omega, fun _ => rfl⟩⟩
  have hb : 3 ≤ T.length := by
    have := of_decide_eq_false hb
    rw [List.length_map] at this
    have t2 : ¬ ((T.length : Nat) : Int) < 3 := this
    omega
  have hu1 := hu.ex e1
  have hv1 := hv.ex e1
  refine s_forS (D := { nx := fun σ1 H1 => (tRet (tC .non)) { nx := fun _ H' => Q .non H', rt := Q } σ1 H1, rt := Q }) (src_new (evP_callTwoT (EvP.var rfl hv1) (by rw [List.length_map]; omega))) (fun H2 i σ' H' => Ex H2 H' ∧ (∀ p ∈ (twos F).take i, ∀ c ∈ F, ¬ NhM.covers T p.1 p.2 c) ∧ ∃ a b c d, σ' = [some u, some v, a, b, c, d]) (fun H2 e2 => ⟨Ex.refl _, fun c hc => by simp at hc, _, _, _, _, rfl⟩) (fun _ _ _ _ _ p => p.1) ?_ ?_
  · rintro Hs es i d hi x σ' H0 H' ⟨r1, r2, a, b, c, d', rfl⟩ e0 hx
    obtain ⟨⟨one, other⟩, hpi, tt, y, z, rfl, htt, hy, hz⟩ := pair_two hi hx
    have ee := ((e1.trans es).trans r1).trans e0
    refine evG_pair (σ := [some u, some v, a, b, c, d']) htt H' (Ex.refl _) _ fun H4 e4 => ?_
    have hy4 := hy.ex e4
    have hz4 := hz.ex e4
    refine s_forS (src_tup' (EvP.var rfl ((hv.ex ee).ex e4))) (fun H2 j σ' H' => Ex H2 H' ∧ (∀ l ∈ F.take j, ¬ NhM.covers T one other l) ∧ ∃ c d, σ' = [some u, some v, some y, some z, c, d]) (fun H2 e2 => ⟨Ex.refl _, fun c hc => by simp at hc, _, _, rfl⟩) (fun _ _ _ _ _ p => p.1) ?_ ?_
    · rintro Hs2 es2 j dl hj xl σ' H5 H6 ⟨t1, t2, c, d', rfl⟩ e6 hl
      obtain ⟨l, hlj, rfl⟩ : ∃ l, F[j]? = some l ∧ dl = dLot l := by
        rw [List.getElem?_map] at hj
        cases h : F[j]? with
        | none => rw [h] at hj; cases hj
        | some e => rw [h] at hj; cases hj; exact ⟨e, rfl, rfl⟩
      refine evG_name H6 (Ex.refl _) _ fun H7 e7 => ?_
      have e47 := ((es2.trans t1).trans e6).trans e7
      have e07 := (ee.trans e4).trans e47
      refine q_asgP (P := fun v H' => ∃ d, Den H' v d ∧ (isNone d = true ↔ ¬ NhM.covers T one other l)) (evP_callR (T, E', one, other, l) (EvP.of2 (EvP.var rfl (hu.ex e07)) (evP_tup (ead3 (EvP.var rfl (hy4.ex e47)) (EvP.var rfl (hz4.ex e47)) (EvP.var rfl (hl.ex e7))) (show 3 ≤ 100000 by decide))) ⟨hb, (by show T.length ≤ 50; omega), asc_nodup ok.asc, fun x hx => nm_ok (ok.nm x hx)⟩ fun _ _ _ _ _ h => h) fun pv H8 e8 hp => ?_
      obtain ⟨dr, hdr, hiff⟩ := hp
      refine s_if (et_test (ev_notNoneP (EvP.var rfl hdr))) (fun hc H9 e9 => ?_) fun hc H9 e9 => ?_
      · refine s_retP (EvP.var rfl (hdr.ex e9)) fun w H10 e10 hw => q w H10 (((e07.trans e8).trans e9).trans e10) ⟨dr, hw, ?_⟩
        have hn : isNone dr = false := by simpa using hc
        have hcov : NhM.covers T one other l := Classical.byContradiction fun z => by rw [hiff.mpr z] at hn; cases hn
        obtain ⟨ha, hb'⟩ := twos_sound (List.mem_of_getElem? hpi)
        exact ⟨(fun z => by rw [hn] at z; cases z), fun z => absurd ⟨hb, one, ha, other, hb', l, List.mem_of_getElem? hlj, hcov⟩ z⟩
      · have hn : isNone dr = true := by simpa using hc
        exact ⟨((t1.trans e6).trans e7).trans (e8.trans e9), take_all t2 hlj (hiff.mp hn), _, _, rfl⟩
    · rintro Hs2 es2 σ' H5 ⟨t1, t2, c, d', rfl⟩
      rw [List.length_map, List.take_length] at t2
      exact ⟨((r1.trans e0).trans e4).trans (es2.trans t1), take_all r2 hpi t2, _, _, _, _, rfl⟩
  · rintro Hs es σ' H' ⟨r1, r2, a, b, c, d, rfl⟩
    rw [List.length_map, twos_map, List.length_map, List.take_length] at r2
    exact s_ret (σ := [some u, some v, a, b, c, d]) (D := { nx := fun _ H' => Q .non H', rt := Q }) ev_c fun H5 e5 => q _ H5 (((e1.trans es).trans r1).trans e5) ⟨.none, .non, ⟨fun _ => not_three r2, fun _ => rfl⟩⟩

theorem ev_isNoneE {σ : L2.St} {H : Hp} {te : TE} {b : Bool} (h : EvP te σ H (fun v H' => ∃ d, Den H' v d ∧ isNone d = b)) : Ev (tOp (fun x y H Q => y = .non ∧ Q (.bl (decide (x = .non))) H) te (tC .non)) σ H (.bl b) := fun H1 e Q q =>
  h H1 e _ fun v H2 e2 p => by
    obtain ⟨d, hd, hb⟩ := p
    refine ⟨rfl, ?_⟩
    rw [Den.isNone hd, hb]
    exact q H2 e2
theorem ev_notNoneE {σ : L2.St} {H : Hp} {te : TE} {b : Bool} (h : EvP te σ H (fun v H' => ∃ d, Den H' v d ∧ isNone d = b)) : Ev (tOp (fun x y H Q => y = .non ∧ Q (.bl (!decide (x = .non))) H) te (tC .non)) σ H (.bl (!b)) := fun H1 e Q q =>
  h H1 e _ fun v H2 e2 p => by
    obtain ⟨d, hd, hb⟩ := p
    refine ⟨rfl, ?_⟩
    rw [Den.isNone hd, hb]
    exact q H2 e2
/-- three lots have all towers, as a truth -/
noncomputable def threeB (T : List Str) (F : List (List Str)) : Bool := @decide (NhM.Three T F) (Classical.propDecidable _)
theorem threeB_iff {T : List Str} {F : List (List Str)} : threeB T F = true ↔ NhM.Three T F := by
  unfold threeB
  exact @decide_eq_true_iff (NhM.Three T F) (Classical.propDecidable _)
theorem three_none {T : List Str} {F : List (List Str)} {b : Bool} (h : b = true ↔ ¬ NhM.Three T F) : b = !threeB T F := by
  cases hb : threeB T F with
  | true =>
    have := threeB_iff.mp hb
    cases b with
    | true => exact absurd this (h.mp rfl)
    | false => rfl
  | false =>
    have : ¬ NhM.Three T F := fun z => by rw [threeB_iff.mpr z] at hb; cases hb
    exact h.mpr this
/-- what bound_by answers -/
noncomputable def bndOf (T : List Str) (F : List (List Str)) (r : Option Int) : Option Int := if threeB T F = true then none else r.map (2 * ·)
theorem isNone_opt (r : Option Int) : isNone (dOpt r) = !r.isSome := by cases r <;> rfl
abbrev st_is_bounded_by : Stmt := topS 37
theorem sc_is_bounded_by : FnScope ["town", "fears"] ["town", "fears"] (defScope st_is_bounded_by) := ⟨rfl, rfl, rfl, by decide +kernel, rfl, by decide +kernel, by decide +kernel⟩
def sp_is_bounded_by : Sp := spD (fun (i : List Str × List Wr × List (List Str) × Option Int) => [dTown i.1 i.2.1, dFears i.2.2.1]) (fun i => TownOk i.1 i.2.1 ∧ FearsOk i.1 i.2.2.1 ∧ NhM.PlaySpec i.1 i.2.1 i.2.2.1 i.2.2.2) (fun i _ v _ => v = .bl (!threeB i.1 i.2.2.1 && i.2.2.2.isSome))
theorem ok_is_bounded_by {f : Addr} {fd : FuncData} (D : Df K mg "is_bounded_by" st_is_bounded_by ["town", "fears"] f fd) (B : Bn mg)  (c_three_by : C8.Cal P w K mg base 2 "three_by" sp_three_by []) (c_two_by : C8.Cal P w K mg base 3 "two_by" sp_two_by []) : C8.Cal P w K mg base 4 "is_bounded_by" sp_is_bounded_by [] := by
  refine D.cal (D.F.ok (k := 3) sc_is_bounded_by (spD_len 2 fun _ => rfl) (fun cdv A outer s H vs Q E hr h => ?_))
  obtain ⟨⟨T, E', F, r⟩, hd, ⟨ok, ok2, ply⟩, q⟩ := h
  try dsimp only at hd q
  obtain ⟨u, v, rfl, hu, hv⟩ := hd.two
  refine ⟨_, (pss_one (ps_ret (pe_and (pe_cmpR op_isN (C8.pe_c c_three_by hr (by decide) (by rfl) (pa_cons (pv 0) (pa_cons (pv 1) pa_nil))) pe_non (nomark _)) (pe_one (pe_cmpR op_isN (C8.pe_c c_two_by hr (by decide) (by rfl) (pa_cons (pv 0) (pa_cons (pv 1) pa_nil))) pe_non (nomark _)))))), ?_⟩
  refine s_ret (ev_andV (ev_isNoneE (evP_callR (T, E', F) (EvP.of2 (EvP.var rfl hu) (EvP.var rfl hv)) ⟨ok, ok2⟩ fun H1 v H2 _ _ hv => ?_)) fun _ => ev_isNoneE (evP_callR (T, E', F, r) (EvP.of2 (EvP.var rfl hu) (EvP.var rfl hv)) ⟨ok, ok2, ply⟩ fun H1 v H2 _ _ hv => hv)) fun H1 e => q _ H1 e rfl
  obtain ⟨d, hd, hi⟩ := hv
  exact ⟨d, hd, three_none hi⟩
abbrev st_bound_by : Stmt := topS 38
theorem sc_bound_by : FnScope ["town", "fears", "play"] ["town", "fears"] (defScope st_bound_by) := ⟨rfl, rfl, rfl, by decide +kernel, rfl, by decide +kernel, by decide +kernel⟩
def sp_bound_by : Sp := spD (fun (i : List Str × List Wr × List (List Str)) => [dTown i.1 i.2.1, dFears i.2.2]) (fun i => TownOk i.1 i.2.1 ∧ FearsOk i.1 i.2.2) (fun i H v H' => ∃ r, NhM.PlaySpec i.1 i.2.1 i.2.2 r ∧ Den H' v (dOpt (bndOf i.1 i.2.2 r)))
theorem ok_bound_by {f : Addr} {fd : FuncData} (D : Df K mg "bound_by" st_bound_by ["town", "fears"] f fd) (B : Bn mg)  (c_play_by : C8.Cal P w K mg base 3 "play_by" sp_play_by []) (c_three_by : C8.Cal P w K mg base 2 "three_by" sp_three_by []) : C8.Cal P w K mg base 4 "bound_by" sp_bound_by [] := by
  refine D.cal (D.F.ok (k := 3) sc_bound_by (spD_len 2 fun _ => rfl) (fun cdv A outer s H vs Q E hr h => ?_))
  obtain ⟨⟨T, E', F⟩, hd, ⟨ok, ok2⟩, q⟩ := h
  try dsimp only at hd q
  obtain ⟨u, v, rfl, hu, hv⟩ := hd.two
  have q : ∀ (v : V) (H' : Hp), Ex H H' → (∃ r, NhM.PlaySpec T E' F r ∧ Den H' v (dOpt (bndOf T F r))) → Q v H' := q
  refine ⟨_, (pss_cons (ps_asg (C8.pe_c c_play_by hr (by decide) (by rfl) (pa_cons (pv 0) (pa_cons (pv 1) pa_nil))) (pg_name (i := 2) sc_bound_by.nd rfl (Or.inl rfl))) (pss_one (ps_ret (pe_ifExp (PW.pt (pw_or (pt_cmpR op_isN (pv 2) pe_non (nomark _)) (pw_or1 (pt_cmpR op_notN (C8.pe_c c_three_by hr (by decide) (by rfl) (pa_cons (pv 0) (pa_cons (pv 1) pa_nil))) pe_non (nomark _))))) pe_non (pe_op op_mul pe_int (pv 2)))))), ?_⟩
  refine q_asgP (P := fun v H' => ∃ r, NhM.PlaySpec T E' F r ∧ Den H' v (dOpt r)) (evP_callR (T, E', F) (EvP.of2 (EvP.var rfl hu) (EvP.var rfl hv)) ⟨ok, ok2⟩ fun H1 v H2 _ _ hv => hv) fun pv H1 e1 hp => ?_
  obtain ⟨r, ply, hpv⟩ := hp
  refine s_retP (P := Da (dOpt (bndOf T F r))) (evP_if (b := !r.isSome || threeB T F) (et_or (et_is (et_test (ev_isNoneP (EvP.var rfl hpv))) (isNone_opt r)) fun _ => et_is (et_test (ev_notNoneE (b := !threeB T F) (evP_callR (T, E', F) (EvP.of2 (EvP.var rfl (hu.ex e1)) (EvP.var rfl (hv.ex e1))) ⟨ok, ok2⟩ fun H1 v H2 _ _ hv => by
    obtain ⟨d, hd, hi⟩ := hv
    exact ⟨d, hd, three_none hi⟩))) (by simp)) (fun hb => ?_) fun hb => ?_) fun w H2 e2 hw => q w H2 (e1.trans e2) ⟨r, ply, hw⟩
  · have : bndOf T F r = none := by
      unfold bndOf
      cases hr : r with
      | none => split <;> rfl
      | some d => rw [hr] at hb; rw [if_pos (by simpa using hb)]
    rw [this]
    exact evP_non
  · cases hr : r with
    | none => rw [hr] at hb; simp at hb
    | some d =>
      rw [hr] at hb hpv
      have hb : threeB T F = false := by simpa using hb
      have : bndOf T F (some d) = some (2 * d) := by unfold bndOf; rw [hb]; rfl
      rw [this]
      refine evP_of_int (ev_op (x := .int 2) (y := .int d) ev_c (EvP.int (EvP.var rfl hpv)) (rv_I (.inl ?_)))
      decide
abbrev st_play_of : Stmt := topS 42
theorem sc_play_of : FnScope ["town", "fears"] ["town", "fears"] (defScope st_play_of) := ⟨rfl, rfl, rfl, by decide +kernel, rfl, by decide +kernel, by decide +kernel⟩
def sp_play_of : Sp := spD (fun (i : List Str × List Wr × List (List Str)) => [dTown i.1 i.2.1, dFears i.2.2]) (fun i => TownOk i.1 i.2.1 ∧ FearsOk i.1 i.2.2) (fun i H v H' => ∃ r, NhM.PlaySpec i.1 i.2.1 i.2.2 r ∧ Den H' v (dOpt r))
theorem fn_play_of {f : Addr} {fd : FuncData} (D : Df K mg "play_of" st_play_of ["town", "fears"] f fd) (B : Bn mg)  (c_want_fearful : C8.Cal P w K mg base 7 "want_fearful" sp_want_fearful []) (c_play_by : C8.Cal P w K mg base 3 "play_by" sp_play_by []) : FnOk P w K mg base CX0 8 f fd ["town", "fears"] sp_play_of := by
  refine (D.F.ok (k := 7) sc_play_of (spD_len 2 fun _ => rfl) (fun cdv A outer s H vs Q E hr h => ?_))
  obtain ⟨⟨T, E', F⟩, hd, ⟨ok, ok2⟩, q⟩ := h
  try dsimp only at hd q
  obtain ⟨u, v, rfl, hu, hv⟩ := hd.two
  refine ⟨_, (pss_cons (ps_expr (C8.pe_c c_want_fearful hr (by decide) (by rfl) (pa_cons (pv 0) (pa_cons (pv 1) pa_nil)))) (pss_one (ps_ret (C8.pe_c c_play_by hr (by decide) (by rfl) (pa_cons (pv 0) (pa_cons (pv 1) pa_nil)))))), ?_⟩
  refine q_callN (T, E', F) (EvP.of2 (EvP.var rfl hu) (EvP.var rfl hv)) ⟨ok, ok2⟩ fun H1 e1 => ?_
  exact s_retP (evP_callR (T, E', F) (EvP.of2 (EvP.var rfl (hu.ex e1)) (EvP.var rfl (hv.ex e1))) ⟨ok, ok2⟩ fun H1 v H2 _ _ hv => hv) fun w H2 e2 hw => q w H2 (e1.trans e2) hw
theorem ok_play_of {f : Addr} {fd : FuncData} (D : Df K mg "play_of" st_play_of ["town", "fears"] f fd) (B : Bn mg)  (c_want_fearful : C8.Cal P w K mg base 7 "want_fearful" sp_want_fearful []) (c_play_by : C8.Cal P w K mg base 3 "play_by" sp_play_by []) : C8.Cal P w K mg base 8 "play_of" sp_play_of [] := D.cal (fn_play_of D B c_want_fearful c_play_by)
abbrev st_bound_of : Stmt := topS 43
theorem sc_bound_of : FnScope ["town", "fears"] ["town", "fears"] (defScope st_bound_of) := ⟨rfl, rfl, rfl, by decide +kernel, rfl, by decide +kernel, by decide +kernel⟩
def sp_bound_of : Sp := spD (fun (i : List Str × List Wr × List (List Str)) => [dTown i.1 i.2.1, dFears i.2.2]) (fun i => TownOk i.1 i.2.1 ∧ FearsOk i.1 i.2.2) (fun i H v H' => ∃ r, NhM.PlaySpec i.1 i.2.1 i.2.2 r ∧ Den H' v (dOpt (bndOf i.1 i.2.2 r)))
theorem fn_bound_of {f : Addr} {fd : FuncData} (D : Df K mg "bound_of" st_bound_of ["town", "fears"] f fd) (B : Bn mg)  (c_want_fearful : C8.Cal P w K mg base 7 "want_fearful" sp_want_fearful []) (c_bound_by : C8.Cal P w K mg base 4 "bound_by" sp_bound_by []) : FnOk P w K mg base CX0 8 f fd ["town", "fears"] sp_bound_of := by
  refine (D.F.ok (k := 7) sc_bound_of (spD_len 2 fun _ => rfl) (fun cdv A outer s H vs Q E hr h => ?_))
  obtain ⟨⟨T, E', F⟩, hd, ⟨ok, ok2⟩, q⟩ := h
  try dsimp only at hd q
  obtain ⟨u, v, rfl, hu, hv⟩ := hd.two
  refine ⟨_, (pss_cons (ps_expr (C8.pe_c c_want_fearful hr (by decide) (by rfl) (pa_cons (pv 0) (pa_cons (pv 1) pa_nil)))) (pss_one (ps_ret (C8.pe_c c_bound_by hr (by decide) (by rfl) (pa_cons (pv 0) (pa_cons (pv 1) pa_nil)))))), ?_⟩
  refine q_callN (T, E', F) (EvP.of2 (EvP.var rfl hu) (EvP.var rfl hv)) ⟨ok, ok2⟩ fun H1 e1 => ?_
  exact s_retP (evP_callR (T, E', F) (EvP.of2 (EvP.var rfl (hu.ex e1)) (EvP.var rfl (hv.ex e1))) ⟨ok, ok2⟩ fun H1 v H2 _ _ hv => hv) fun w H2 e2 hw => q w H2 (e1.trans e2) hw
theorem ok_bound_of {f : Addr} {fd : FuncData} (D : Df K mg "bound_of" st_bound_of ["town", "fears"] f fd) (B : Bn mg)  (c_want_fearful : C8.Cal P w K mg base 7 "want_fearful" sp_want_fearful []) (c_bound_by : C8.Cal P w K mg base 4 "bound_by" sp_bound_by []) : C8.Cal P w K mg base 8 "bound_of" sp_bound_of [] := D.cal (fn_bound_of D B c_want_fearful c_bound_by)
abbrev st_is_bounded : Stmt := topS 41
theorem sc_is_bounded : FnScope ["town", "fears"] ["town", "fears"] (defScope st_is_bounded) := ⟨rfl, rfl, rfl, by decide +kernel, rfl, by decide +kernel, by decide +kernel⟩
def sp_is_bounded : Sp := spD (fun (i : List Str × List Wr × List (List Str) × Option Int) => [dTown i.1 i.2.1, dFears i.2.2.1]) (fun i => TownOk i.1 i.2.1 ∧ FearsOk i.1 i.2.2.1 ∧ NhM.PlaySpec i.1 i.2.1 i.2.2.1 i.2.2.2) (fun i _ v _ => v = .bl (!threeB i.1 i.2.2.1 && i.2.2.2.isSome))
theorem ok_is_bounded {f : Addr} {fd : FuncData} (D : Df K mg "is_bounded" st_is_bounded ["town", "fears"] f fd) (B : Bn mg)  (c_want_fearful : C8.Cal P w K mg base 7 "want_fearful" sp_want_fearful []) (c_is_bounded_by : C8.Cal P w K mg base 4 "is_bounded_by" sp_is_bounded_by []) : C8.Cal P w K mg base 8 "is_bounded" sp_is_bounded [] := by
  refine D.cal (D.F.ok (k := 7) sc_is_bounded (spD_len 2 fun _ => rfl) (fun cdv A outer s H vs Q E hr h => ?_))
  obtain ⟨⟨T, E', F, r⟩, hd, ⟨ok, ok2, ply⟩, q⟩ := h
  try dsimp only at hd q
  obtain ⟨u, v, rfl, hu, hv⟩ := hd.two
  refine ⟨_, (pss_cons (ps_expr (C8.pe_c c_want_fearful hr (by decide) (by rfl) (pa_cons (pv 0) (pa_cons (pv 1) pa_nil)))) (pss_one (ps_ret (C8.pe_c c_is_bounded_by hr (by decide) (by rfl) (pa_cons (pv 0) (pa_cons (pv 1) pa_nil)))))), ?_⟩
  refine q_callN (T, E', F) (EvP.of2 (EvP.var rfl hu) (EvP.var rfl hv)) ⟨ok, ok2⟩ fun H1 e1 => ?_
  exact s_retP (P := fun v _ => v = .bl (!threeB T F && r.isSome)) (evP_callR (T, E', F, r) (EvP.of2 (EvP.var rfl (hu.ex e1)) (EvP.var rfl (hv.ex e1))) ⟨ok, ok2, ply⟩ fun H1 v H2 _ _ hv => hv) fun w H2 e2 hw => q w H2 (e1.trans e2) hw
end
end Nh

namespace Nh
open PySem PySem.Spec PyProof.Rows L2 Evl
section
variable {P : Program} {w : World} {K : PySem.W.Frag} {mg : Str → Option Value} {base : Heap}

abbrev kvFeed (c : Addr) (s r t : Int) : List (Key × V) := [(Sum.inr "cells", .ref c), (Sum.inr "spot", .int s), (Sum.inr "rest", .int r), (Sum.inr "turn", .int t)]
/-- the feed at p: at most n turns so far -/
structure FeedAt (H : Hp) (p c : Addr) (n : Nat) : Prop where
  ex : ∃ (ns : List Int) (s r t : Int), H p = some (.dK (kvFeed c s r t)) ∧ H c = some (.lst (ns.map V.int)) ∧ c ≠ p ∧ ns.length ≤ 1000 ∧ 0 ≤ t ∧ t ≤ (n : Int)
theorem FeedAt.more {H H' : Hp} {p c : Addr} {n : Nat} (h : FeedAt H p c n) (e : Ex H H') : FeedAt H' p c n := by
  obtain ⟨ns, s, r, t, h1, h2, h3⟩ := h.ex
  exact ⟨ns, s, r, t, e p _ h1, e c _ h2, h3⟩
theorem FeedAt.le {H : Hp} {p c : Addr} {n m : Nat} (h : FeedAt H p c n) (e : n ≤ m) : FeedAt H p c m := by
  obtain ⟨ns, s, r, t, h1, h2, h3, h4, h5, h6⟩ := h.ex
  exact ⟨ns, s, r, t, h1, h2, h3, h4, h5, by omega⟩
theorem FeedAt.nt {H : Hp} {p c : Addr} {n : Nat} (h : FeedAt H p c n) : ∀ xs, H p ≠ some (.tup xs) := fun xs z => by
  obtain ⟨ns, s, r, t, h1, _⟩ := h.ex
  rw [h1] at z; cases z
/-- another object changes -/
theorem FeedAt.upd {H : Hp} {p c l : Addr} {n : Nat} {o : HO} (h : FeedAt H p c n) (h1 : l ≠ p) (h2 : l ≠ c) : FeedAt (upd H l o) p c n := by
  obtain ⟨ns, s, r, t, k1, k2, k3⟩ := h.ex
  exact ⟨ns, s, r, t, by rw [upd_ne (Ne.symm h1)]; exact k1, by rw [upd_ne (Ne.symm h2)]; exact k2, k3⟩
/-- a draw -/
def sp__law_draw : Sp := fun vs H Q _ => ∃ (p c : Addr) (b : Int) (n : Nat), vs = [.ref p, .int b] ∧ FeedAt H p c n ∧ n ≤ 1000000 ∧ b ≤ 1000 ∧ ∀ r H', Exd p H H' → FeedAt H' p c (n + 1) → 0 ≤ r → (r < b ∨ r = 0) → Q (.int r) H'
theorem ev_int1 {σ : L2.St} {H : Hp} {te : TE} {i : Int} (h : Ev te σ H (.int i)) : Ev (tCB rInt1 (tCons te tNil)) σ H (.int i) := fun H1 e Q q => h H1 e _ fun H2 e2 => .inl ⟨i, rfl, q H2 e2⟩
theorem ev_mod {σ : L2.St} {H : Hp} {ta tb : TE} {i j : Int} (h : Ev ta σ H (.int i)) (h' : Ev tb σ H (.int j)) (hj : 0 < j) : Ev (tOp (rI (fun _ j => 0 < j) fun i j => .int (i % j)) ta tb) σ H (.int (i % j)) := ev_op h h' (rv_I hj)
theorem ev_fdiv {σ : L2.St} {H : Hp} {ta tb : TE} {i j : Int} (h : Ev ta σ H (.int i)) (h' : Ev tb σ H (.int j)) (hj : 0 < j) (hb : j ≤ 1000) : Ev (tOp (rI CDivW fun i j => .int (i / j)) ta tb) σ H (.int (i / j)) := ev_op h h' (rv_I (wide_div (b := 10) hj (by omega) (by decide) (by decide)))
theorem ev_mul {σ : L2.St} {H : Hp} {ta tb : TE} {i j : Int} (h : Ev ta σ H (.int i)) (h' : Ev tb σ H (.int j)) (hi : -(2 ^ 64) < i ∧ i < 2 ^ 64) : Ev (tOp (rI CMul fun i j => .int (i * j)) ta tb) σ H (.int (i * j)) := ev_op h h' (rv_I (.inl hi))
theorem q_dputF {σ : L2.St} {H : Hp} {td tv : TE} {tz : TS} {D : Ends} {v : V} {p : Addr} {z : Str} {kvs : List (Key × V)} (hv : Ev tv σ H v) (hd : Ev td σ H (.ref p)) (hp : H p = some (.dK kvs)) (hl : kvs.length < 100000) (k : ∀ H1, Ex H H1 → tz D σ (upd H1 p (.dK (putK kvs (Sum.inr z) v)))) : tSeq (sDPut td (tC (.str z)) tv) tz D σ H := q_dputS hv hd ev_c hp hl k
theorem ev_geI {σ : L2.St} {H : Hp} {ta tb : TE} {i j : Int} (h : Ev ta σ H (.int i)) (h' : Ev tb σ H (.int j)) : Ev (tOp (rI0 fun i j => .bl (decide (j ≤ i))) ta tb) σ H (.bl (decide (j ≤ i))) := ev_op h h' rv_I0
theorem q_parV {σ : L2.St} {H : Hp} {ta tb : TE} {tz : TS} {D : Ends} {x y : V} {i j : Nat} (h : Ev ta σ H x) (h' : Ev tb σ H y) (k : ∀ H1, Ex H H1 → tz D ((σ.set i (some x)).set j (some y)) H1) : tSeq (tPar i j (tCons ta (tCons tb tNil))) tz D σ H :=
  h H (Ex.refl H) _ fun H1 e1 => h' H1 e1 _ fun H2 e2 => ⟨x, y, rfl, k H2 (e1.trans e2)⟩
/-- a list of ints is not empty -/
theorem et_ints {K : PySem.W.Frag} {σ : L2.St} {H : Hp} {ta tb : TE} {c : Addr} {ns : List Int} (h : Ev ta σ H (.ref c)) (hc : H c = some (.lst (ns.map V.int))) (h' : EvL tb σ H []) : EvT (tTest (tOp (rNeD K) ta tb)) σ H (!decide (ns = [])) := fun H1 e Q q =>
  h H1 e _ fun H2 e2 => h' H2 (e.trans e2) _ fun l H3 _ e3 hl => by
    have hd : ∀ ns : List Int, DpAll K H3 (ns.map V.int) (ns.map PyData.int) := fun ns => by
      induction ns with
      | nil => exact .nil
      | cons n ns ih => exact .cons (.int n) ih
    have sh : SeqAt.shaped (.list (ns.map PyData.int)) = true := by
      have h1 : ∀ ns : List Int, PyData.canLayAll0 (ns.map .int) = true := fun ns => by
        induction ns with
        | nil => rfl
        | cons n ns ih => show (true && PyData.canLayAll0 (ns.map .int)) = true; rw [ih]; rfl
      have h2 : ∀ ns : List Int, PyData.depthAll (ns.map .int) = 0 := fun ns => by
        induction ns with
        | nil => rfl
        | cons n ns ih => show max 0 (PyData.depthAll (ns.map .int)) = 0; rw [ih]; rfl
      show (PyData.canLayAll0 (ns.map .int) && decide (PyData.depthAll (ns.map .int) + 1 ≤ 64)) = true
      rw [h1, h2]
      rfl
    refine ⟨.list (ns.map .int), .list [], .lst (Evl.sq_of (e3 c _ ((e.trans e2) c _ hc))) (hd ns), .lst (Evl.sq_of hl) .nil, sh, rfl, _, rfl, ?_⟩
    have : (!PyData.eqv (.list (ns.map .int)) (.list [])) = !decide (ns = []) := by
      cases ns with
      | nil => rfl
      | cons n ns => rfl
    rw [this]
    exact q H3 (e2.trans e3)
theorem pow18 : (10 : Int) ^ (18 : Int).toNat = 1000000000000000000 := by decide
abbrev st__law_draw : Stmt := topS 46
theorem sc__law_draw : FnScope ["_law_feed_here", "_law_bound", "_law_digit", "_law_cells", "_law_turn", "_law_cell", "_law_mixed"] ["_law_feed_here", "_law_bound"] (defScope st__law_draw) := ⟨rfl, rfl, rfl, by decide +kernel, rfl, by decide +kernel, by decide +kernel⟩

theorem ok__law_draw {f : Addr} {fd : FuncData} (D : Df K mg "_law_draw" st__law_draw ["_law_feed_here", "_law_bound"] f fd) (B : Bn mg) : C8.Cal P w K mg base 1 "_law_draw" sp__law_draw [] := by
  refine D.cal (D.F.ok (k := 0) sc__law_draw (fun vs H Q E h => by obtain ⟨p, c, b, n, rfl, _⟩ := h; rfl) (fun cdv A outer s H vs Q E hr h => ?_))
  obtain ⟨p, c, b, n, rfl, hf, hn, hb, q⟩ := h
  obtain ⟨ns, s0, r0, t0, h1, h2, hcp, hlen, ht0, htn⟩ := hf.ex
  refine ⟨_, (pss_cons (ps_if (pt_cmpR op_lt (pv 1) pe_int (nomark _)) (pss_one (ps_ret pe_int)) pss_nil) (pss_cons (ps_dput (hu_of hr) (pv 0) pe_str (pe_op op_add (pe_dget (hu_of hr) (pv 0) pe_str (fun _ _ => rfl)) pe_int) rfl) (pss_cons (ps_if (pt_cmpR op_gt (pe_dget (hu_of hr) (pv 0) pe_str (fun _ _ => rfl)) pe_int (nomark _)) (pss_cons (ps_asg (pe_op op_mod (pe_callTy call_int1 (by rfl) B.int (by decide +kernel) (pa_cons (pe_dget (hu_of hr) (pv 0) pe_str (fun _ _ => rfl)) pa_nil)) (pv 1)) (pg_name (i := 2) sc__law_draw.nd rfl (Or.inl rfl))) (pss_cons (ps_dput (hu_of hr) (pv 0) pe_str (pe_op op_fdivW (pe_dget (hu_of hr) (pv 0) pe_str (fun _ _ => rfl)) (pv 1)) rfl) (pss_one (ps_ret (pv 2))))) pss_nil) (pss_cons (ps_par (i := 3) (j := 4) rfl sc__law_draw.nd rfl rfl (by decide) rfl rfl (pa_cons (pe_dget (hu_of hr) (pv 0) pe_str (fun _ _ => rfl)) (pa_cons (pe_dget (hu_of hr) (pv 0) pe_str (fun _ _ => rfl)) pa_nil)) (by rfl)) (pss_cons (ps_asg (pe_ifExp (pt_cmpR (op_neD (units64 hr)) (pv 3) (pe_lst pa_nil) (nomark _)) (pe_ix ix_list (pv 3) (pe_op op_mod (pe_callTy call_int1 (by rfl) B.int (by decide +kernel) (pa_cons (pe_dget (hu_of hr) (pv 0) pe_str (fun _ _ => rfl)) pa_nil)) (pe_callB call_len_seq (by rfl) B.len boot_len (pa_cons (pv 3) pa_nil))) (fun _ _ => rfl)) pe_int) (pg_name (i := 5) sc__law_draw.nd rfl (Or.inl rfl))) (pss_cons (ps_dput (hu_of hr) (pv 0) pe_str (pe_op op_add (pe_dget (hu_of hr) (pv 0) pe_str (fun _ _ => rfl)) pe_int) rfl) (pss_cons (ps_if (PW.pt (pw_and (pt_cmpR op_ge (pv 5) (pe_op op_pow pe_int pe_int) (nomark _)) (pw_and1 (pt_cmpR op_le (pe_dget (hu_of hr) (pv 0) pe_str (fun _ _ => rfl)) (pe_callB call_len_seq (by rfl) B.len boot_len (pa_cons (pv 3) pa_nil)) (nomark _))))) (pss_cons (ps_dput (hu_of hr) (pv 0) pe_str (pe_op op_fdivW (pv 5) (pv 1)) rfl) (pss_one (ps_ret (pe_op op_mod (pe_callTy call_int1 (by rfl) B.int (by decide +kernel) (pa_cons (pv 5) pa_nil)) (pv 1))))) pss_nil) (pss_cons (ps_asg (pe_op op_add (pe_op op_mod (pe_callTy call_int1 (by rfl) B.int (by decide +kernel) (pa_cons (pv 5) pa_nil)) pe_int) (pe_op op_mul pe_int (pv 4))) (pg_name (i := 6) sc__law_draw.nd rfl (Or.inl rfl))) (pss_cons (ps_asg (pe_op op_mod (pe_callTy call_int1 (by rfl) B.int (by decide +kernel) (pa_cons (pe_op op_add (pe_op op_add (pe_op op_mul (pv 6) (pv 6)) (pe_op op_mul pe_int (pv 4))) pe_int) pa_nil)) pe_int) (pg_name (i := 6) sc__law_draw.nd rfl (Or.inl rfl))) (pss_cons (ps_asg (pe_op op_mod (pe_callTy call_int1 (by rfl) B.int (by decide +kernel) (pa_cons (pe_op op_add (pe_op op_add (pe_op op_mul (pv 6) (pv 6)) (pe_op op_mul pe_int (pv 4))) pe_int) pa_nil)) pe_int) (pg_name (i := 6) sc__law_draw.nd rfl (Or.inl rfl))) (pss_one (ps_ret (pe_op op_mod (pe_callTy call_int1 (by rfl) B.int (by decide +kernel) (pa_cons (pe_op op_fdivW (pv 6) pe_int) pa_nil)) (pv 1)))))))))))))), ?_⟩
  refine s_if (D := { nx := _, rt := Q }) (et_test (ev_lt (ev_var rfl) ev_c)) (fun hb2 H1 e1 => ?_) fun hb2 H1 e1 => ?_
  · exact s_ret ev_c fun H2 e2 => q 0 H2 (Exd.ex (e1.trans e2)) ((hf.more (e1.trans e2)).le (Nat.le_succ n)) (Int.le_refl 0) (.inr rfl)
  have hb2 : 2 ≤ b := by have := of_decide_eq_false hb2; omega
  have k1 := e1 p _ h1
  refine q_dputF (ev_add (ev_dgetS (v := .int t0) (ev_var rfl) ev_c k1 rfl) ev_c) (ev_var rfl) k1 (show 4 < 100000 by decide) fun H2 e2 => ?_
  have x2 : Exd p H (upd H2 p (.dK (kvFeed c s0 r0 (t0 + 1)))) := (Exd.ex (e1.trans e2)).trans (Exd.upd _)
  have k2 : (upd H2 p (.dK (kvFeed c s0 r0 (t0 + 1)))) p = some (.dK (kvFeed c s0 r0 (t0 + 1))) := upd_same
  have c2 : (upd H2 p (.dK (kvFeed c s0 r0 (t0 + 1)))) c = some (.lst (ns.map V.int)) := by rw [upd_ne hcp]; exact e2 c _ (e1 c _ h2)
  rw [show putK (kvFeed c s0 r0 t0) (Sum.inr (Str.ofString "turn")) (.int (t0 + 1)) = kvFeed c s0 r0 (t0 + 1) from rfl]
  generalize upd H2 p (.dK (kvFeed c s0 r0 (t0 + 1))) = H3 at x2 k2 c2
  refine s_if (et_test (ev_gt (ev_dgetS (v := .int r0) (ev_var rfl) ev_c k2 rfl) ev_c)) (fun hr0 H4 e4 => ?_) fun hr0 H4 e4 => ?_
  · have k4 := e4 p _ k2
    refine q_asg (ev_mod (ev_int1 (ev_dgetS (v := .int r0) (ev_var rfl) ev_c k4 rfl)) (ev_var rfl) (by omega)) fun H5 e5 => ?_
    have k5 := e5 p _ k4
    refine q_dputF (ev_fdiv (ev_dgetS (v := .int r0) (ev_var rfl) ev_c k5 rfl) (ev_var rfl) (by omega) hb) (ev_var rfl) k5 (show 4 < 100000 by decide) fun H6 e6 => ?_
    refine s_ret (ev_var rfl) fun H7 e7 => q _ H7 (((x2.trans (Exd.ex ((e4.trans e5).trans e6))).trans (Exd.upd _)).trans (Exd.ex e7)) ?_ (Int.emod_nonneg _ (by omega)) (.inl (Int.emod_lt_of_pos _ (by omega)))
    refine ⟨ns, s0, _, t0 + 1, e7 p _ upd_same, e7 c _ ?_, hcp, hlen, by omega, by omega⟩
    rw [upd_ne hcp]
    exact e6 c _ (e5 c _ (e4 c _ c2))
  clear hr0
  have k4 := e4 p _ k2
  have c4 := e4 c _ c2
  have x4 := x2.trans (Exd.ex e4)
  refine q_parV (x := .ref c) (y := .int (t0 + 1)) (ev_dgetS (v := .ref c) (ev_var rfl) ev_c k4 rfl) (ev_dgetS (v := .int (t0 + 1)) (ev_var rfl) ev_c k4 rfl) fun H5 e5 => ?_
  have k5 := e5 p _ k4
  have c5 := e5 c _ c4
  have x5 := x4.trans (Exd.ex e5)
  refine q_asgP (P := fun v _ => ∃ i : Int, v = .int i) (evP_if (b := !decide (ns = [])) (et_ints (ev_var rfl) c5 ?_) (fun hz => ?_) fun _ => EvP.of ev_c fun _ _ => ⟨491, rfl⟩) fun cv H6 e6 hcv => ?_
  · intro H6 e6 Q' q'
    exact ⟨Nat.zero_le _, fun l hl => q' l _ hl (Ex.new hl) upd_same⟩
  · have hz : ns ≠ [] := by simpa using hz
    have hpos : 0 < ns.length := List.length_pos_iff.mpr hz
    have hj0 : 0 ≤ s0 % (ns.length : Int) := Int.emod_nonneg _ (by omega)
    have hj1 : s0 % (ns.length : Int) < (ns.length : Int) := Int.emod_lt_of_pos _ (by omega)
    obtain ⟨j, hj⟩ : ∃ j : Nat, s0 % (ns.length : Int) = (j : Int) := ⟨(s0 % (ns.length : Int)).toNat, by omega⟩
    have hjl : j < ns.length := by omega
    refine EvP.of (v := .int ns[j]) (ev_op (x := .ref c) (y := .int (j : Int)) (ev_var rfl) (ev_is (ev_mod (i := s0) (j := (ns.length : Int)) (ev_int1 (ev_dgetS (v := .int s0) (ev_var rfl) ev_c k5 rfl)) (ev_is (ev_lenL (ev_var rfl) c5) (by rw [List.length_map])) (by omega)) (by rw [hj])) (rv_ixL (Evl.sq_of c5) (atI_nat (by simp [hjl])))) fun _ _ => ⟨_, rfl⟩
  obtain ⟨cell, rfl⟩ := hcv
  have k6 := e6 p _ k5
  have c6 := e6 c _ c5
  have x6 := x5.trans (Exd.ex e6)
  refine q_dputF (ev_add (ev_dgetS (v := .int s0) (ev_var rfl) ev_c k6 rfl) ev_c) (ev_var rfl) k6 (show 4 < 100000 by decide) fun H7 e7 => ?_
  have x7 : Exd p H (upd H7 p (.dK (kvFeed c (s0 + 1) r0 (t0 + 1)))) := (x6.trans (Exd.ex e7)).trans (Exd.upd _)
  have k7 : (upd H7 p (.dK (kvFeed c (s0 + 1) r0 (t0 + 1)))) p = some (.dK (kvFeed c (s0 + 1) r0 (t0 + 1))) := upd_same
  have c7 : (upd H7 p (.dK (kvFeed c (s0 + 1) r0 (t0 + 1)))) c = some (.lst (ns.map V.int)) := by rw [upd_ne hcp]; exact e7 c _ c6
  rw [show putK (kvFeed c s0 r0 (t0 + 1)) (Sum.inr (Str.ofString "spot")) (.int (s0 + 1)) = kvFeed c (s0 + 1) r0 (t0 + 1) from rfl]
  generalize upd H7 p (.dK (kvFeed c (s0 + 1) r0 (t0 + 1))) = H8 at x7 k7 c7
  refine s_if (et_and (et_test (ev_geI (ev_var rfl) (ev_is (ev_op (x := .int 10) (y := .int 18) ev_c ev_c (rv_I ⟨by decide, by decide, by decide⟩)) (by rw [pow18])))) fun _ => et_test (ev_le (ev_dgetS (v := .int (s0 + 1)) (ev_var rfl) ev_c k7 rfl) (ev_lenL (ev_var rfl) c7))) (fun _ H9 e9 => ?_) fun _ H9 e9 => ?_
  · have k9 := e9 p _ k7
    refine q_dputF (ev_fdiv (ev_var rfl) (ev_var rfl) (by omega) hb) (ev_var rfl) k9 (show 4 < 100000 by decide) fun H10 e10 => ?_
    refine s_ret (ev_mod (ev_int1 (ev_var rfl)) (ev_var rfl) (by omega)) fun H11 e11 => q _ H11 (((x7.trans (Exd.ex (e9.trans e10))).trans (Exd.upd _)).trans (Exd.ex e11)) ?_ (Int.emod_nonneg _ (by omega)) (.inl (Int.emod_lt_of_pos _ (by omega)))
    refine ⟨ns, s0 + 1, _, t0 + 1, e11 p _ upd_same, e11 c _ ?_, hcp, hlen, by omega, by omega⟩
    rw [upd_ne hcp]
    exact e10 c _ (e9 c _ c7)
  have m1 : 0 ≤ cell % 1073741287 ∧ cell % 1073741287 < 1073741287 := ⟨Int.emod_nonneg _ (by decide), Int.emod_lt_of_pos _ (by decide)⟩
  refine q_asg (ev_add (ev_mod (ev_int1 (ev_var rfl)) ev_c (by decide)) (ev_mul ev_c (ev_var rfl) (by decide))) fun H10 e10 => ?_
  have hm : 0 ≤ cell % 1073741287 + 690041 * (t0 + 1) ∧ cell % 1073741287 + 690041 * (t0 + 1) < 18446744073709551616 := by omega
  generalize cell % 1073741287 + 690041 * (t0 + 1) = m at hm
  refine q_asg (ev_mod (ev_int1 (ev_add (ev_add (ev_mul (ev_var rfl) (ev_var rfl) ⟨by omega, by omega⟩) (ev_mul ev_c (ev_var rfl) (by decide))) ev_c)) ev_c (by decide)) fun H11 e11 => ?_
  generalize hm2 : (m * m + 41 * (t0 + 1) + 491) % 2147483423 = m2
  have hm2 : 0 ≤ m2 ∧ m2 < 2147483423 := by rw [← hm2]; exact ⟨Int.emod_nonneg _ (by decide), Int.emod_lt_of_pos _ (by decide)⟩
  refine q_asg (ev_mod (ev_int1 (ev_add (ev_add (ev_mul (ev_var rfl) (ev_var rfl) ⟨by omega, by omega⟩) (ev_mul ev_c (ev_var rfl) (by decide))) ev_c)) ev_c (by decide)) fun H12 e12 => ?_
  refine s_ret (ev_mod (ev_int1 (ev_fdiv (ev_var rfl) ev_c (by decide) (by decide))) (ev_var rfl) (by omega)) fun H13 e13 => q _ H13 (x7.trans (Exd.ex ((((e9.trans e10).trans e11).trans e12).trans e13))) ?_ (Int.emod_nonneg _ (by omega)) (.inl (Int.emod_lt_of_pos _ (by omega)))
  have ee := (((e9.trans e10).trans e11).trans e12).trans e13
  exact ⟨ns, s0 + 1, r0, t0 + 1, ee p _ k7, ee c _ c7, hcp, hlen, by omega, by omega⟩
end
end Nh

namespace Nh
open PySem PySem.Spec PyProof.Rows L2 Evl
section
variable {P : Program} {w : World} {K : PySem.W.Frag} {mg : Str → Option Value} {base : Heap}

/-- the feed, new -/
def sp__law_feed (K : PySem.W.Frag) : Sp := fun vs H Q _ => ∃ (a : Addr) (ns : List Int), vs = [V.ref a] ∧ SqL K H a (ns.map V.int) ∧ ns.length ≤ 1000 ∧ ∀ p c H', Ex H H' → H p = none → H c = none → FeedAt H' p c 0 → Q (.ref p) H'
theorem tp_cons {tk tv : TE} {r : List (TE × TE)} {σ : L2.St} {H : Hp} {x : V} {P : PP} {Q : List (V × V) → Hp → Prop} (hk : Ev tk σ H x) (hv : EvP tv σ H P) (k : ∀ y H2, Ex H H2 → P y H2 → tPairs r σ H2 fun ps H3 => Q ((x, y) :: ps) H3) : tPairs ((tk, tv) :: r) σ H Q :=
  hk H (Ex.refl H) _ fun H1 e1 => hv H1 e1 _ fun y H2 e2 p => k y H2 (e1.trans e2) p
theorem src_elL {K : PySem.W.Frag} {σ : L2.St} {H : Hp} {te : TE} {xs : List V} {ns : List Int} (h : EvL te σ H xs) (e : xs = ns.map V.int) : EvP te σ H (ND H (ns.map PyData.int)) := fun H1 e1 Q q =>
  h H1 e1 Q fun p H2 hp e2 h2 => q _ H2 e2 ⟨p, xs, rfl, fresh_back e1 hp, h2, by rw [e]; exact DenAll.ints.mpr rfl⟩
abbrev st__law_feed : Stmt := topS 45
theorem sc__law_feed : FnScope ["_law_script", "_law_cell"] ["_law_script"] (defScope st__law_feed) := ⟨rfl, rfl, rfl, by decide +kernel, rfl, by decide +kernel, by decide +kernel⟩

theorem ok__law_feed {f : Addr} {fd : FuncData} (D : Df K mg "_law_feed" st__law_feed ["_law_script"] f fd) (B : Bn mg) : C8.Cal P w K mg base 1 "_law_feed" (sp__law_feed K) [] := by
  refine D.cal (D.F.ok (k := 0) sc__law_feed (fun vs H Q E h => by obtain ⟨a, ns, rfl, _⟩ := h; rfl) (fun cdv A outer s H vs Q E hr h => ?_))
  obtain ⟨a, ns, rfl, hs, hn, q⟩ := h
  refine ⟨_, (pss_one (ps_ret (pe_disp (pps_cons pe_str (pe_lc (own := [("_law_cell", 1)]) (g := (gName 1)) (tt := tYes) (te := (tCB rInt1 (tCons (tVar 1) tNil))) rfl sc__law_feed.nd (pi_list (pe_slice sl_list (pv 0) po_none (po_some pe_int))) (blkOk_by (N := ["_law_script", "_law_cell"]) (sc := defScope st__law_feed) (by decide +kernel)) (fun _ _ _ _ _ => (pg_name (i := 1) sc__law_feed.nd rfl (Or.inl rfl))) (fun _ _ _ _ _ => pts_nil) (fun _ _ _ _ _ => (pe_callTy call_int1 (by rfl) B.int (by decide +kernel) (pa_cons (pv 1) pa_nil)))) (pps_cons pe_str pe_int (pps_cons pe_str pe_int (pps_cons pe_str pe_int pps_nil)))) (by rfl) (by rfl) (fun z => by cases z) (by decide)))), ?_⟩
  intro p hp
  have e1 : Ex H (upd H p (.dK [])) := Ex.new hp
  have hl := (el_sl (K := K) (σ := L2.start ["_law_script", "_law_cell"] [V.ref a]) (te := tVar 0) (tl := tNoPart) (th := tPart (tC (.int 63))) (H := H) (xs := ns.map V.int) (ev_var rfl) eo_none (eo_some ev_c) hs).mono e1
  have es := src_elL (K := K) hl (ns := ns.take 63) (by rw [show cutV (ns.map V.int) none (some 63) = (ns.map V.int).take 63 from cut_to _ 63, List.map_take])
  have hlc : EvP (tLc (iList K (tSl (rSlL K) (tVar 0) tNoPart (tPart (tC (.int 63))))) (gName 1) tYes (tCB rInt1 (tCons (tVar 1) tNil)) [1]) (L2.start ["_law_script", "_law_cell"] [V.ref a]) (upd H p (.dK [])) (ND (upd H p (.dK [])) ((ns.take 63).map PyData.int)) := (lcY (src_new es) (by rw [List.length_map, List.length_take]; omega) id fun d hd x H' e hx => ⟨_, evG_name, rfl, by
    obtain ⟨i, _, rfl⟩ := List.mem_map.mp hd
    cases hx
    exact evP_of_int (ev_int1 (ev_var rfl))⟩).imp fun v H1 _ h => by rw [List.map_id] at h; exact h
  refine tp_cons ev_c hlc fun v H2 e2 hv => ?_
  obtain ⟨c, ys, rfl, hc0, hc, hd⟩ := hv
  have hy := DenAll.ints.mp hd
  subst hy
  have hcp : c ≠ p := fun z => by rw [z, upd_same] at hc0; cases hc0
  refine tp_cons ev_c (EvP.of (P := fun v _ => v = .int 0) ev_c fun _ _ => rfl) fun _ H3 e3 z => ?_
  subst z
  refine tp_cons ev_c (EvP.of (P := fun v _ => v = .int 0) ev_c fun _ _ => rfl) fun _ H4 e4 z => ?_
  subst z
  refine tp_cons ev_c (EvP.of (P := fun v _ => v = .int 0) ev_c fun _ _ => rfl) fun _ H5 e5 z => ?_
  subst z
  have e25 := (e3.trans e4).trans e5
  refine ⟨e25 p _ (e2 p _ upd_same), kvFeed c 0 0 0, rfl, (show 4 ≤ 15 by decide), ?_⟩
  refine q p c _ ((e1.trans (e2.trans e25)).mut hp) hp (fresh_back e1 hc0) ⟨ns.take 63, 0, 0, 0, upd_same, by rw [upd_ne hcp]; exact e25 c _ hc, hcp, ?_, by decide, by decide⟩
  rw [List.length_take]; omega
/-- an item of a list of ints, drawn -/
def sp__law_any : Sp := fun vs H Q _ => ∃ (p c l : Addr) (ns : List Int) (n : Nat), vs = [V.ref p, .ref l] ∧ H l = some (.lst (ns.map V.int)) ∧ l ≠ p ∧ 0 < ns.length ∧ ns.length ≤ 1000 ∧ FeedAt H p c n ∧ n ≤ 1000000 ∧ ∀ i H', i ∈ ns → Exd p H H' → FeedAt H' p c (n + 1) → Q (.int i) H'
abbrev st__law_any : Stmt := topS 47
theorem sc__law_any : FnScope ["_law_feed_here", "_law_some"] ["_law_feed_here", "_law_some"] (defScope st__law_any) := ⟨rfl, rfl, rfl, by decide +kernel, rfl, by decide +kernel, by decide +kernel⟩

theorem ok__law_any {f : Addr} {fd : FuncData} (D : Df K mg "_law_any" st__law_any ["_law_feed_here", "_law_some"] f fd) (B : Bn mg) (c__law_draw : C8.Cal P w K mg base 1 "_law_draw" sp__law_draw []) : C8.Cal P w K mg base 2 "_law_any" sp__law_any [] := by
  refine D.cal (D.F.ok (k := 1) sc__law_any (fun vs H Q E h => by obtain ⟨p, c, l, ns, n, rfl, _⟩ := h; rfl) (fun cdv A outer s H vs Q E hr h => ?_))
  obtain ⟨p, c, l, ns, n, rfl, hl, hlp, h0, h1000, hf, hn, q⟩ := h
  refine ⟨_, (pss_one (ps_ret (pe_ix ix_list (pv 1) (C8.pe_c c__law_draw hr (by decide) (by rfl) (pa_cons (pv 0) (pa_cons (pe_callB call_len_seq (by rfl) B.len boot_len (pa_cons (pv 1) pa_nil)) pa_nil))) (fun _ _ => rfl)))), ?_⟩
  refine ⟨_, rfl, _, rfl, ev_lenL (ev_var rfl) hl H (Ex.refl H) _ fun H1 e1 => ⟨p, c, ((ns.map V.int).length : Int), n, rfl, hf.more e1, hn, by rw [List.length_map]; omega, fun r H2 e2 hf2 hr0 hr1 => ?_⟩⟩
  rw [List.length_map] at hr1
  obtain ⟨j, rfl⟩ : ∃ j : Nat, r = (j : Int) := ⟨r.toNat, by omega⟩
  have hj : j < ns.length := by omega
  exact ⟨l, ns.map V.int, (j : Int), .int ns[j], rfl, rfl, Evl.sq_of (e2 l _ hlp (e1 l _ hl)), atI_nat (by simp [hj]), q ns[j] H2 (List.getElem_mem hj) ((Exd.ex e1).trans e2) hf2⟩
abbrev st__law_wires : Stmt := topS 54
theorem sc__law_wires : FnScope ["_law_feed_here", "_law_towers", "_law_often", "_law_rows", "_law_k", "_law_other", "_law_low"] ["_law_feed_here", "_law_towers", "_law_often"] (defScope st__law_wires) := ⟨rfl, rfl, rfl, by decide +kernel, rfl, by decide +kernel, by decide +kernel⟩

/-- bounds of a drawn wire -/
structure WireIn (T : List Str) (e : Wr) : Prop where
  ab : ∃ i j : Nat, i < j ∧ T[i]? = some e.a ∧ T[j]? = some e.b
  le : e.lo ≤ e.hi
  lo : -1000 ≤ e.lo
  hi : e.hi ≤ 1000
abbrev wkey (e : Wr) : List Str := [e.a, e.b]
/-- the wires that are drawn -/
structure WiresOk (T : List Str) (E : List Wr) : Prop where
  len : E.length ≤ 8
  w : ∀ e ∈ E, WireIn T e
  ord : E.Pairwise fun e f => ltL (wkey e) (wkey f) = true
def sp__law_wires : Sp := fun vs H Q _ => ∃ (p c : Addr) (u : V) (T : List Str) (b : Int) (n : Nat), vs = [V.ref p, u, .int b] ∧ Den H u (dLot T) ∧ T.length ≤ 5 ∧ T.Pairwise ltS ∧ b ≤ 1000 ∧ FeedAt H p c n ∧ n ≤ 900000 ∧ ∀ v H' E, Exd p H H' → FeedAt H' p c (n + 100) → WiresOk T E → Den H' v (.tuple (E.map dWire)) → Q v H'
theorem asc_get {T : List Str} (h : T.Pairwise ltS) {i j : Nat} {x y : Str} (hij : i < j) (hi : T[i]? = some x) (hj : T[j]? = some y) : ltS x y := by
  obtain ⟨hi1, hi2⟩ := List.getElem?_eq_some_iff.mp hi
  obtain ⟨hj1, hj2⟩ := List.getElem?_eq_some_iff.mp hj
  rw [← hi2, ← hj2]
  exact List.pairwise_iff_getElem.mp h i j hi1 hj1 hij
/-- the rows ahead of the place k, j -/
structure RowsTo (T : List Str) (k j : Nat) (E : List Wr) : Prop where
  w : ∀ e ∈ E, WireIn T e
  ord : E.Pairwise fun e f => ltL (wkey e) (wkey f) = true
  at_ : ∀ e ∈ E, ∃ i' j' : Nat, T[i']? = some e.a ∧ T[j']? = some e.b ∧ (i' < k ∨ (i' = k ∧ j' < j))
theorem RowsTo.le {T : List Str} {k j k' j' : Nat} {E : List Wr} (h : RowsTo T k j E) (hk : k < k' ∨ (k = k' ∧ j ≤ j')) : RowsTo T k' j' E := by
  refine ⟨h.w, h.ord, fun e he => ?_⟩
  obtain ⟨a, b, h1, h2, h3⟩ := h.at_ e he
  exact ⟨a, b, h1, h2, by omega⟩
theorem RowsTo.snoc {T : List Str} (asc : T.Pairwise ltS) {k j : Nat} {E : List Wr} (h : RowsTo T k j E) {e : Wr} (hk : T[k]? = some e.a) (hj : T[j]? = some e.b) (hkj : k < j) (hle : e.lo ≤ e.hi) (h1 : -1000 ≤ e.lo) (h2 : e.hi ≤ 1000) : RowsTo T k (j + 1) (E ++ [e]) := by
  refine ⟨fun f hf => ?_, ?_, fun f hf => ?_⟩
  · rcases List.mem_append.mp hf with hf | hf
    · exact h.w f hf
    · rw [List.mem_singleton.mp hf]; exact ⟨⟨k, j, hkj, hk, hj⟩, hle, h1, h2⟩
  · refine List.pairwise_append.mpr ⟨h.ord, List.pairwise_singleton _ _, fun f hf g hg => ?_⟩
    rw [List.mem_singleton.mp hg]
    obtain ⟨i', j', a1, a2, a3⟩ := h.at_ f hf
    show (if f.a = e.a then (if f.b = e.b then false else decide (ltS f.b e.b)) else decide (ltS f.a e.a)) = true
    rcases a3 with a3 | ⟨rfl, a3⟩
    · have lt := asc_get asc a3 a1 hk
      rw [if_neg (fun z => by rw [z] at lt; exact ltS_irr _ lt)]
      exact decide_eq_true lt
    · rw [hk] at a1
      rw [if_pos (Option.some.inj a1).symm]
      have lt := asc_get asc a3 a2 hj
      rw [if_neg (fun z => by rw [z] at lt; exact ltS_irr _ lt)]
      exact decide_eq_true lt
  · rcases List.mem_append.mp hf with hf | hf
    · obtain ⟨i', j', a1, a2, a3⟩ := h.at_ f hf
      exact ⟨i', j', a1, a2, by omega⟩
    · rw [List.mem_singleton.mp hf]; exact ⟨k, j, hk, hj, .inr ⟨rfl, Nat.lt_succ_self j⟩⟩
/-- the feed and a list that grows -/
structure FL (H H' : Hp) (p c l : Addr) (m : Nat) (ds : List PyData) : Prop where
  ex : Exd p H H'
  f : FeedAt H' p c m
  l : ∃ ys, H' l = some (.lst ys) ∧ DenAll H' ys ds
theorem FL.more {H H1 H2 : Hp} {p c l : Addr} {m : Nat} {ds : List PyData} (h : FL H H1 p c l m ds) (e : Ex H1 H2) : FL H H2 p c l m ds := by
  obtain ⟨ys, h1, h2⟩ := h.l
  exact ⟨h.ex.trans (Exd.ex e), h.f.more e, ys, e l _ h1, h2.ex e⟩
theorem FL.draw {H H1 H2 : Hp} {p c l : Addr} {m m' : Nat} {ds : List PyData} (h : FL H H1 p c l m ds) (ne : l ≠ p) (e : Exd p H1 H2) (hf : FeedAt H2 p c m') : FL H H2 p c l m' ds := by
  obtain ⟨ys, h1, h2⟩ := h.l
  exact ⟨h.ex.trans e, hf, ys, e l _ ne h1, h2.tk (e.tk h.f.nt) _ _⟩
theorem FL.app {H H1 : Hp} {p c l : Addr} {m : Nat} {ds : List PyData} {ys : List V} {v : V} {d : PyData} (h : FL H H1 p c l m ds) (ne : l ≠ p) (nc : l ≠ c) (hl0 : H l = none) (hl : H1 l = some (.lst ys)) (hd : DenAll H1 ys ds) (hv : Den H1 v d) : FL H (upd H1 l (.lst (ys ++ [v]))) p c l m (ds ++ [d]) := by
  have tk : Tk H1 (upd H1 l (.lst (ys ++ [v]))) := Tk.upd fun xs z => by rw [hl] at z; cases z
  refine ⟨fun a o n ha => ?_, h.f.upd ne nc, _, upd_same, (hd.snoc hv).tk tk _ _⟩
  rw [upd_ne (ne_of_none ha hl0)]
  exact h.ex a o n ha
theorem FL.tk {H H' : Hp} {p c l : Addr} {m : Nat} {ds : List PyData} (h : FL H H' p c l m ds) (nt : ∀ xs, H p ≠ some (.tup xs)) : Tk H H' := h.ex.tk nt

/-- what evaluates while the feed at p is drawn from -/
def EvD (te : TE) (σ : L2.St) (H : Hp) (p c : Addr) (m : Nat) (P : PP) : Prop := ∀ Q : VK, (∀ v H', Exd p H H' → FeedAt H' p c m → P v H' → Q v H') → te σ H Q
abbrev IntP (φ : Int → Prop) : PP := fun v _ => ∃ r, v = .int r ∧ φ r
section
variable {σ : L2.St} {H : Hp} {p c : Addr} {m : Nat} {te ta tb : TE} {D : Ends} {tu tw tz : TS} {P : PP} {φ ψ : Int → Prop}
theorem d_draw {b : Int} {E : XK} (hf : FeedAt H p c m) (hm : m ≤ 1000000) (h0 : Ev ta σ H (.ref p)) (h1 : Ev tb σ H (.int b)) (hb : b ≤ 1000) : EvD (tCall sp__law_draw [] E (tCons ta (tCons tb tNil))) σ H p c (m + 1) (IntP fun r => 0 ≤ r ∧ (r < b ∨ r = 0)) := fun Q q =>
  h0 H (Ex.refl H) _ fun H1 e1 => h1 H1 e1 _ fun H2 e2 => ⟨p, c, b, m, rfl, hf.more (e1.trans e2), hm, hb, fun r H3 x3 f3 r0 r1 => q _ H3 ((Exd.ex (e1.trans e2)).trans x3) f3 ⟨r, rfl, r0, r1⟩⟩
theorem d_any {ns : List Int} {E : XK} (hf : FeedAt H p c m) (hm : m ≤ 1000000) (h0 : Ev ta σ H (.ref p)) (h1 : EvL tb σ H (ns.map V.int)) (hn : 0 < ns.length) (hb : ns.length ≤ 1000) : EvD (tCall sp__law_any [] E (tCons ta (tCons tb tNil))) σ H p c (m + 1) (IntP fun r => r ∈ ns) := fun Q q =>
  h0 H (Ex.refl H) _ fun H1 e1 => h1 H1 e1 _ fun l H2 hl e2 h2 => by
    have f2 := hf.more (e1.trans e2)
    have hlp : l ≠ p := fun z => by
      obtain ⟨ns, s, r, t, k1, _⟩ := (hf.more e1).ex
      rw [z, k1] at hl; cases hl
    exact ⟨p, c, l, ns, m, rfl, h2, hlp, hn, hb, f2, hm, fun r H3 hr x3 f3 => q _ H3 ((Exd.ex (e1.trans e2)).trans x3) f3 ⟨r, rfl, hr⟩⟩
theorem d_opL {r : R2} {j : Int} {g : Int → Int → Int} (h : EvD ta σ H p c m (IntP φ)) (hb : ∀ H', Ev tb σ H' (.int j)) (hr : ∀ i H', RV r (.int i) (.int j) H' (.int (g i j))) : EvD (tOp r ta tb) σ H p c m (IntP fun x => ∃ i, φ i ∧ x = g i j) := fun Q q =>
  h _ fun v H1 x1 f1 hv => by
    obtain ⟨i, rfl, hi⟩ := hv
    exact hb H1 H1 (Ex.refl H1) _ fun H2 e2 => hr i H2 H2 (Ex.refl H2) Q fun H3 e3 => q _ H3 (x1.trans (Exd.ex (e2.trans e3))) (f1.more (e2.trans e3)) ⟨_, rfl, i, hi, rfl⟩
theorem d_opR {r : R2} {j : Int} {g : Int → Int → Int} (hb : Ev ta σ H (.int j)) (h : ∀ H', Ex H H' → EvD tb σ H' p c m (IntP φ)) (hr : ∀ i H', RV r (.int j) (.int i) H' (.int (g j i))) : EvD (tOp r ta tb) σ H p c m (IntP fun x => ∃ i, φ i ∧ x = g j i) := fun Q q =>
  hb H (Ex.refl H) _ fun H0 e0 => h H0 e0 _ fun v H1 x1 f1 hv => by
    obtain ⟨i, rfl, hi⟩ := hv
    exact hr i H1 H1 (Ex.refl H1) Q fun H3 e3 => q _ H3 ((Exd.ex e0).trans (x1.trans (Exd.ex e3))) (f1.more e3) ⟨_, rfl, i, hi, rfl⟩
theorem s_ifGt {j : Int} (h : EvD te σ H p c m (IntP φ)) (k1 : ∀ r H1, Exd p H H1 → FeedAt H1 p c m → φ r → j < r → tu D σ H1) (k2 : ∀ r H1, Exd p H H1 → FeedAt H1 p c m → φ r → ¬ j < r → tw D σ H1) : tIfS (tTest (tOp (rI0 fun i j => .bl (decide (j < i))) te (tC (.int j)))) tu tw D σ H :=
  h _ fun v H1 x1 f1 hv => by
    obtain ⟨r, rfl, hr⟩ := hv
    refine ⟨r, j, rfl, rfl, _, rfl, ?_⟩
    by_cases hlt : j < r
    · rw [decide_eq_true hlt]
      show tu D σ H1
      exact k1 r H1 x1 f1 hr hlt
    · rw [decide_eq_false hlt]
      show tw D σ H1
      exact k2 r H1 x1 f1 hr hlt
theorem q_asgD {i : Nat} (h : EvD te σ H p c m P) (k : ∀ v H1, Exd p H H1 → FeedAt H1 p c m → P v H1 → tz D (σ.set i (some v)) H1) : tSeq (tAsg te (gName i)) tz D σ H := h _ k
theorem s_appD {K : PySem.W.Frag} {l : Addr} (hl : ∃ xs, H l = some (.lst xs)) (ha : Ev ta σ H (.ref l)) (h : ∀ H', Ex H H' → EvD te σ H' p c m P) (hlp : l ≠ p) (hz : ∀ xs, H l = some (.lst xs) → xs.length < 100000) (k : ∀ v H1 xs, H l = some (.lst xs) → H1 l = some (.lst xs) → Exd p H H1 → FeedAt H1 p c m → P v H1 → D.nx σ (upd H1 l (.lst (xs ++ [v])))) :
    tDrop (tBM K "list" rAppend ta (tCons te tNil)) D σ H := ha H (Ex.refl H) _ fun H1 e1 => by
  obtain ⟨xs, hl⟩ := hl
  refine ⟨Or.inl ⟨rfl, xs, Evl.sq_of (e1 l _ hl)⟩, h H1 e1 _ fun v H2 x2 f2 pv => ?_⟩
  have x02 := (Exd.ex e1).trans x2
  exact ⟨l, xs, v, rfl, rfl, x02 l _ hlp hl, Evl.sz_lt (hz xs hl), k v H2 xs hl (x02 l _ hlp hl) x02 f2 pv⟩
end

theorem ok__law_wires {f : Addr} {fd : FuncData} (D : Df K mg "_law_wires" st__law_wires ["_law_feed_here", "_law_towers", "_law_often"] f fd) (B : Bn mg) (c__law_draw : C8.Cal P w K mg base 1 "_law_draw" sp__law_draw []) (c__law_any : C8.Cal P w K mg base 2 "_law_any" sp__law_any []) : C8.Cal P w K mg base 3 "_law_wires" sp__law_wires [] := by
  refine D.cal (D.F.ok (k := 2) sc__law_wires (fun vs H Q E h => by obtain ⟨p, c, u, T, b, n, rfl, _⟩ := h; rfl) (fun cdv A outer s H vs Q E hr h => ?_))
  obtain ⟨p, c, u, T, b, n, rfl, hu, hT, asc, hb, hf, hn, q⟩ := h
  have nt0 := hf.nt
  refine ⟨_, (pss_cons (ps_asg (pe_lst pa_nil) (pg_name (i := 3) sc__law_wires.nd rfl (Or.inl rfl))) (pss_cons (ps_for PassesOwn.never rfl (pi_range1 (by rfl) B.range (pa_cons (pe_callB call_len_seq (by rfl) B.len boot_len (pa_cons (pv 1) pa_nil)) pa_nil)) (pg_name (i := 4) sc__law_wires.nd rfl (Or.inl rfl)) (pss_one (ps_for PassesOwn.never rfl (pi_tup (pe_slice sl_tupA (pv 1) (po_some (pe_op op_add (pv 4) pe_int)) po_none)) (pg_name (i := 5) sc__law_wires.nd rfl (Or.inl rfl)) (pss_one (ps_if (pt_cmpR op_gt (C8.pe_c c__law_draw hr (by decide) (by rfl) (pa_cons (pv 0) (pa_cons (pv 2) pa_nil))) pe_int (nomark _)) (pss_cons (ps_asg (pe_op op_sub (C8.pe_c c__law_draw hr (by decide) (by rfl) (pa_cons (pv 0) (pa_cons pe_int pa_nil))) pe_int) (pg_name (i := 6) sc__law_wires.nd rfl (Or.inl rfl))) (pss_one (ps_expr (pe_bm PySem.F.plainAttrs_list PySem.F.slot_list_append PySem.F.type_list_append mt_append (pv 3) (pa_cons (pe_tup (pa_cons (pe_ix ix_tup (pv 1) (pv 4) (fun _ _ => rfl)) (pa_cons (pv 5) (pa_cons (pv 6) (pa_cons (pe_op op_add (pv 6) (C8.pe_c c__law_any hr (by decide) (by rfl) (pa_cons (pv 0) (pa_cons (pe_lst (pa_cons pe_int (pa_cons pe_int (pa_cons pe_int (pa_cons pe_int (pa_cons pe_int (pa_cons pe_int pa_nil))))))) pa_nil)))) pa_nil))))) pa_nil))))) pss_nil))))) (pss_one (ps_ret (pe_callTy call_tuple_of (by rfl) B.tuple (by decide +kernel) (pa_cons (pe_slice sl_list (pv 3) po_none (po_some pe_int)) pa_nil)))))), ?_⟩
  refine q_asgP (evP_lst ead_nil (by decide)) fun lv H1 e1 hl => ?_
  obtain ⟨l, ys, rfl, hl0, hl1, hy⟩ := hl
  have hlp : l ≠ p := fun z => by
    obtain ⟨ns, s, r, t, k1, _⟩ := hf.ex
    rw [z, k1] at hl0; cases hl0
  have hlc : l ≠ c := fun z => by
    obtain ⟨ns, s, r, t, _, k1, _⟩ := hf.ex
    rw [z, k1] at hl0; cases hl0
  have fl0 : FL H H1 p c l n (([] : List Wr).map dWire) := ⟨Exd.ex e1, hf.more e1, ys, hl1, hy⟩
  refine s_forT (D := { nx := fun σ1 H1 => (tRet (tCB (rTupOf K) (tCons (tSl (rSlL K) (tVar 3) tNoPart (tPart (tC (.int 8)))) tNil))) { nx := fun _ H' => Q .non H', rt := Q } σ1 H1, rt := Q }) (srcT_range (n := T.length) (fun Hx ex Qx qx => ev_lenP (EvP.var rfl ((hu.ex e1).ex ex)) Hx (Ex.refl Hx) _ fun H4 e4 => by rw [List.length_map]; exact qx H4 e4) (by omega)) (fun H2 i σ' H' => Tk H2 H' ∧ (∃ E : List Wr, FL H H' p c l (n + 15 * i) (E.map dWire) ∧ RowsTo T i 0 E ∧ E.length ≤ 5 * i) ∧ ∃ a b' d, σ' = [some (.ref p), some u, some (.int b), some (.ref l), a, b', d]) (fun H2 e2 => ⟨Tk.refl _, ⟨[], fl0.more e2, ⟨(fun e he => nomatch he), .nil, (fun e he => nomatch he)⟩, Nat.le_refl _⟩, _, _, _, rfl⟩) (fun _ _ _ _ _ p => p.1) ?_ ?_
  · rintro Hs es i k hik x σ' H0 H' ⟨r1, ⟨E, fl, rows, hE⟩, a, b', d, rfl⟩ e0 rfl
    obtain ⟨hi, rfl⟩ : k < T.length ∧ i = k := by
      obtain ⟨h1, h2⟩ := List.getElem?_eq_some_iff.mp hik
      rw [List.length_range] at h1
      rw [List.getElem_range] at h2
      exact ⟨h2 ▸ h1, h2⟩
    refine evG_name H' (Ex.refl _) _ fun H4 e4 => ?_
    have fl4 := (fl.more e0).more e4
    have hu4 : Den H4 u (dLot T) := hu.tk (fl4.tk nt0) _ _
    have tk4 := (r1.trans (Tk.ex e0)).trans (Tk.ex e4)
    have hTk : T[i]? = some T[i] := List.getElem?_eq_getElem hi
    refine s_forT (srcT_P (evP_slFrom (k := i + 1) (EvP.var rfl hu4) (ev_is (ev_add (ev_var rfl) ev_c) (by show V.int ((i : Int) + 1) = V.int ((i + 1 : Nat) : Int); congr 1)))) (fun H2 j σ' H' => Tk H2 H' ∧ (∃ E : List Wr, FL H H' p c l (n + 15 * i + 3 * j) (E.map dWire) ∧ RowsTo T i (i + 1 + j) E ∧ E.length ≤ 5 * i + j) ∧ ∃ b' d, σ' = [some (.ref p), some u, some (.int b), some (.ref l), some (.int (i : Int)), b', d]) (fun H2 e2 => ⟨Tk.refl _, ⟨E, fl4.more e2, rows.le (.inr ⟨rfl, Nat.zero_le _⟩), hE⟩, _, _, rfl⟩) (fun _ _ _ _ _ p => p.1) ?_ ?_
    · rintro Hs2 es2 j dx hj xo σ' H5 H6 ⟨t1, ⟨E2, fl5, rows2, hE2⟩, b', d, rfl⟩ e6 hx
      obtain ⟨y, hy, rfl⟩ : ∃ y, T[i + 1 + j]? = some y ∧ dx = .str y := by
        rw [List.getElem?_drop, List.getElem?_map] at hj
        cases h : T[i + 1 + j]? with
        | none => rw [h] at hj; cases hj
        | some y => rw [h] at hj; cases hj; exact ⟨y, rfl, rfl⟩
      cases hx
      have hjl : i + 1 + j < T.length := (List.getElem?_eq_some_iff.mp hy).1
      refine evG_name H6 (Ex.refl _) _ fun H7 e7 => ?_
      have fl7 := (fl5.more e6).more e7
      have tk7 := (t1.trans (Tk.ex e6)).trans (Tk.ex e7)
      refine s_ifGt (d_draw fl7.f (by omega) (ev_var rfl) (ev_var rfl) hb) (fun r H8 x8 f8 hr0 hr1 => ?_) fun r H8 x8 f8 hr0 hr1 => ?_
      · have fl8 := fl7.draw hlp x8 f8
        have tk8 := tk7.trans (x8.tk fl7.f.nt)
        refine q_asgD (d_opL (g := fun i j => i - j) (d_draw fl8.f (by omega) (ev_var rfl) ev_c (by decide)) (fun H' => ev_c) fun i H' => rv_I0) fun lv H9 x9 f9 hlv => ?_
        obtain ⟨lo, rfl, i0, ⟨hi0, hi1⟩, rfl⟩ := hlv
        have fl9 := fl8.draw hlp x9 f9
        have tk9 := tk8.trans (x9.tk fl8.f.nt)
        have hu9 : Den H9 u (dLot T) := hu.tk (fl9.tk nt0) _ _
        obtain ⟨zs, hz1, hz2⟩ := fl9.l
        refine s_appD (l := l) (c := c) (P := fun v H' => ∃ hi : Int, i0 - 3 ≤ hi ∧ hi ≤ 1000 ∧ Den H' v (dWire ⟨T[i], y, i0 - 3, hi⟩)) ⟨zs, hz1⟩ (ev_var rfl) (fun H10 e10 => fun Q' q' => ?_) hlp (fun xs hxs => ?_) (fun v H10 xs hx0 hx1 x10 f10 hv => ?_) (m := n + 15 * i + 3 * j + 1 + 1 + 1)
        · have hu10 := hu9.ex e10
          refine EvP.go (evP_ix (i := i) (EvP.var rfl hu10) (ev_var rfl) (mapGet PyData.str hTk)) fun v1 H11 e11 hv1 => ?_
          refine (ev_var (v := .str y) rfl) H11 (Ex.refl _) _ fun H12 e12 => ?_
          refine (ev_var (v := .int (i0 - 3)) rfl) H12 (Ex.refl _) _ fun H13 e13 => ?_
          have e1013 := (e11.trans e12).trans e13
          refine (d_opR (j := i0 - 3) (g := fun i j => i + j) (φ := fun r => r ∈ [0, 1, 2, 2, 3, 5]) (ev_var rfl) (fun H' e' => d_any (ns := [0, 1, 2, 2, 3, 5]) (f9.more ((e10.trans e1013).trans e')) (by omega) (ev_var rfl) (el_lst (vs := [.int 0, .int 1, .int 2, .int 2, .int 3, .int 5]) (ea_cons ev_c (ea_cons ev_c (ea_cons ev_c (ea_cons ev_c (ea_cons ev_c (ea_cons ev_c ea_nil)))))) (show 6 ≤ 100000 by decide)) (by decide) (by decide)) fun i H' => rv_I0) _ fun v2 H14 x14 f14 hv2 => ?_
          obtain ⟨hh, rfl, j0, hj0, rfl⟩ := hv2
          refine ⟨show 4 ≤ sizeLine by decide, fun t ht => ?_⟩
          have hj5 : 0 ≤ j0 ∧ j0 ≤ 5 := by
            simp at hj0
            omega
          have et := Ex.new (o := .tup [v1, .str y, .int (i0 - 3), .int (i0 - 3 + j0)]) ht
          refine q' _ _ (((Exd.ex e1013).trans x14).trans (Exd.ex et)) (f14.more et) ⟨i0 - 3 + j0, by omega, by omega, .tup upd_same (.cons ?_ (.cons (.str y) (.cons (.int _) (.cons (.int _) .nil))))⟩
          have d1 : Den H11 v1 (.str T[i]) := hv1
          exact ((d1.ex (e12.trans e13)).tk (x14.tk (f9.more (e10.trans e1013)).nt) _ _).ex et
        · rw [hz1] at hxs
          cases hxs
          rw [hz2.len, List.length_map]
          omega
        · rw [hz1] at hx0
          cases hx0
          obtain ⟨hh, h1, h2, hd⟩ := hv
          have fl10 := fl9.draw hlp x10 f10
          have tk10 := tk9.trans (x10.tk fl9.f.nt)
          have tkl : Tk H10 (upd H10 l (.lst (zs ++ [v]))) := Tk.upd fun xs z => by rw [hx1] at z; cases z
          refine ⟨tk10.trans tkl, ⟨E2 ++ [⟨T[i], y, i0 - 3, hh⟩], ?_, rows2.snoc asc hTk hy (by omega) h1 (show -1000 ≤ i0 - 3 by omega) h2, by rw [List.length_append]; show _ + 1 ≤ _; omega⟩, _, _, rfl⟩
          rw [List.map_append]
          have := fl10.app hlp hlc hl0 hx1 (hz2.tk (x10.tk fl9.f.nt) _ _) hd
          exact this
      · have fl8 := fl7.draw hlp x8 f8
        have tk8 := tk7.trans (x8.tk fl7.f.nt)
        exact ⟨tk8, ⟨E2, ⟨fl8.ex, fl8.f.le (by omega), fl8.l⟩, rows2.le (.inr ⟨rfl, by omega⟩), by omega⟩, _, _, rfl⟩
    · rintro Hs2 es2 σ' H5 ⟨t1, ⟨E2, fl5, rows2, hE2⟩, b', d, rfl⟩
      rw [List.length_drop, List.length_map] at fl5 hE2
      refine ⟨(tk4.trans (Tk.ex es2)).trans t1, ⟨E2, ⟨fl5.ex, fl5.f.le (by omega), fl5.l⟩, rows2.le (.inl (Nat.lt_succ_self i)), by omega⟩, _, _, _, rfl⟩
  · rintro Hs es σ' H' ⟨r1, ⟨E, fl, rows, hE⟩, a, b', d, rfl⟩
    rw [List.length_range] at fl hE
    obtain ⟨zs, hz1, hz2⟩ := fl.l
    refine s_retP (D := { nx := fun _ H' => Q .non H', rt := Q }) (evP_tupleOf (sl_toL (k := 8) (ds := E.map dWire) (ev_var rfl) ev_c hz1 hz2)) fun v H5 e5 hv => ?_
    refine q v H5 (E.take 8) (fl.ex.trans (Exd.ex e5)) ((fl.f.more e5).le (by omega)) ⟨by rw [List.length_take]; omega, fun e he => rows.w e (List.mem_of_mem_take he), rows.ord.sublist (List.take_sublist _ _)⟩ ?_
    rw [List.map_take]
    exact hv
end
end Nh

namespace Nh
open PySem PySem.Spec PyProof.Rows L2 Evl
section
variable {P : Program} {w : World} {K : PySem.W.Frag} {mg : Str → Option Value} {base : Heap}

/-- sorted(xs), xs a list of wires of different ends: by the ends -/
def rSortW (K : PySem.W.Frag) : List V → Hp → VK → Prop := fun vs H Q => ∃ (a : Addr) (L : List (Addr × Wr)), vs = [V.ref a] ∧ SqL K H a (L.map fun p => V.ref p.1) ∧ (∀ p ∈ L, H p.1 = some (.tup [.str p.2.a, .str p.2.b, .int p.2.lo, .int p.2.hi])) ∧ L.length < 60 ∧ (L.map fun p => wkey p.2).Nodup ∧
  ∀ (L' : List (Addr × Wr)) (p : Addr), L'.Perm L → (L'.Pairwise fun x y => ltL (wkey x.2) (wkey y.2) = true) → H p = none → Q (.ref p) (upd H p (.lst (L'.map fun q => V.ref q.1)))
def SortW (P : Program) (w : World) (K : PySem.W.Frag) : Prop := ∀ X : Cx, X.calm = true → X.prog = P → X.w = w → X.K = K → X.A.units + 64 < cLine → CallR X (.builtin "sorted") (rSortW K)
/-- a town that may be drawn -/
structure TownIn (T : List Str) (E : List Wr) : Prop where
  ok : TownOk T E
  w : ∀ e ∈ E, -1000 ≤ e.lo ∧ e.hi ≤ 1000
theorem townIn_of {T : List Str} {E : List Wr} (h0 : T ≠ []) (h5 : T.length ≤ 5) (nm : ∀ x ∈ T, nameOk x) (asc : T.Pairwise ltS) (hW : WiresOk T E) : TownIn T E := by
  refine ⟨⟨h0, h5, nm, asc, by have := hW.len; omega, fun e he => ?_, fun k e f he hf => ?_⟩, fun e he => ⟨(hW.w e he).lo, (hW.w e he).hi⟩⟩
  · obtain ⟨i, j, hij, hi, hj⟩ := (hW.w e he).ab
    exact ⟨List.mem_of_getElem? hi, List.mem_of_getElem? hj, asc_get asc hij hi hj, (hW.w e he).le⟩
  · obtain ⟨h1, h2⟩ := List.getElem?_eq_some_iff.mp he
    obtain ⟨h3, h4⟩ := List.getElem?_eq_some_iff.mp hf
    have := List.pairwise_iff_getElem.mp hW.ord k (k + 1) h1 h3 (Nat.lt_succ_self k)
    rw [h2, h4] at this
    exact this
abbrev allNames : List Str := ["a", "b", "c", "d", "e", "ab", "zz", "abcdefgh"]
theorem names_ok : ∀ x ∈ allNames, nameOk x := by
  have : ∀ x ∈ allNames, 1 ≤ x.length ∧ x.length ≤ 8 ∧ ∀ c ∈ x.cps.toList, c ∈ letters.cps.toList := by decide +kernel
  exact this
theorem names_nodup : allNames.Nodup := by decide +kernel
theorem map_eraseIdx' {α β : Type} (f : α → β) : ∀ (l : List α) (j : Nat), (l.map f).eraseIdx j = (l.eraseIdx j).map f
  | [], _ => rfl
  | _ :: _, 0 => rfl
  | x :: l, j + 1 => by
    show f x :: (l.map f).eraseIdx j = f x :: (l.eraseIdx j).map f
    rw [map_eraseIdx' f l j]
theorem perm_erase {α : Type} : ∀ (l : List α) (j : Nat) (x : α), l[j]? = some x → (x :: l.eraseIdx j).Perm l
  | [], _, _, h => by simp at h
  | y :: l, 0, x, h => by
    have : y = x := by simpa using h
    subst this
    exact List.Perm.refl _
  | y :: l, j + 1, x, h => by
    have ih := perm_erase l j x (by simpa using h)
    show (x :: y :: l.eraseIdx j).Perm (y :: l)
    exact (List.Perm.swap y x _).trans (ih.cons y)
theorem seqIx {j n : Nat} (h : j < n) : seqIndex? (j : Int) n = some j := by
  unfold seqIndex?
  have h1 : ¬ (j : Int) < 0 := by omega
  simp only [if_neg h1]
  rw [if_pos (by simp; omega)]
  simp
theorem rising_pw : ∀ (r : List Str) (p : Str), risingS p r = true → (p :: r).Nodup → (p :: r).Pairwise ltS
  | [], p, _, _ => List.pairwise_singleton _ _
  | x :: r, p, h, nd => by
    have h : (!ltCps x.cps.toList p.cps.toList && risingS x r) = true := h
    rw [ltCps_eq, Bool.and_eq_true] at h
    have nd1 := List.nodup_cons.mp nd
    have ih := rising_pw r x h.2 nd1.2
    have hpx : ltS p x := by
      refine ltS_tri x p (fun z => nd1.1 (by rw [z]; exact List.mem_cons_self)) ?_
      have := h.1
      simpa using this
    refine List.pairwise_cons.mpr ⟨fun y hy => ?_, ih⟩
    rcases List.mem_cons.mp hy with rfl | hy
    · exact hpx
    · exact ltS_trans hpx ((List.pairwise_cons.mp ih).1 y hy)
theorem sorted_pw {l : List Str} (h : sortedS l = true) (nd : l.Nodup) : l.Pairwise ltS := by
  cases l with
  | nil => exact .nil
  | cons x r => exact rising_pw r x h nd
theorem s_ret2 {σ : L2.St} {H : Hp} {ta tb : TE} {D : Ends} {v : V} (h : Ev ta σ H v) (k : ∀ H1, Ex H H1 → tb σ H1 fun w H2 => 2 ≤ sizeLine ∧ ∀ t, H2 t = none → D.rt (.ref t) (upd H2 t (.tup [v, w]))) : tRet (tTup (tCons ta (tCons tb tNil))) D σ H := h H (Ex.refl H) _ fun H1 e1 => k H1 e1
theorem d_wires {σ : L2.St} {H : Hp} {p c : Addr} {m : Nat} {ta tu tb : TE} {T : List Str} {b : Int} {E : XK} (hf : FeedAt H p c m) (hm : m ≤ 900000) (h0 : Ev ta σ H (.ref p)) (h1 : EvP tu σ H (Da (dLot T))) (h2 : Ev tb σ H (.int b)) (hT : T.length ≤ 5) (asc : T.Pairwise ltS) (hb : b ≤ 1000) : EvD (tCall sp__law_wires [] E (tCons ta (tCons tu (tCons tb tNil)))) σ H p c (m + 100) (fun v H' => ∃ E, WiresOk T E ∧ Den H' v (.tuple (E.map dWire))) := fun Q q =>
  h0 H (Ex.refl H) _ fun H1 e1 => h1 H1 e1 _ fun u H2 e2 hu => h2 H2 (e1.trans e2) _ fun H3 e3 => by
    have e13 := e1.trans (e2.trans e3)
    exact ⟨p, c, u, T, b, m, rfl, Den.ex e3 hu, hT, asc, hb, hf.more e13, hm, fun v H4 W x4 f4 hW hv => q v H4 ((Exd.ex e13).trans x4) f4 ⟨W, hW, hv⟩⟩
theorem q_parD {σ : L2.St} {H : Hp} {p c : Addr} {m : Nat} {ta tb : TE} {tz : TS} {D : Ends} {i j : Nat} {P1 P2 : PP} (h : EvP ta σ H P1) (h' : ∀ H1, Ex H H1 → EvD tb σ H1 p c m P2) (k : ∀ x y H1 H2, Ex H H1 → P1 x H1 → Exd p H1 H2 → FeedAt H2 p c m → P2 y H2 → tz D ((σ.set i (some x)).set j (some y)) H2) : tSeq (tPar i j (tCons ta (tCons tb tNil))) tz D σ H :=
  h H (Ex.refl H) _ fun x H1 e1 p1 => h' H1 e1 _ fun y H2 x2 f2 p2 => ⟨x, y, rfl, k x y H1 H2 e1 p1 x2 f2 p2⟩
/-- the feed, the names that are left, the names that are taken -/
structure Gd (H H' : Hp) (p c nm tw : Addr) (m : Nat) (NS TS : List Str) : Prop where
  ex : Exd p H H'
  f : FeedAt H' p c m
  n : H' nm = some (.lst (NS.map V.str))
  t : H' tw = some (.lst (TS.map V.str))
theorem Gd.more {H H1 H2 : Hp} {p c nm tw : Addr} {m : Nat} {NS TS : List Str} (h : Gd H H1 p c nm tw m NS TS) (e : Ex H1 H2) : Gd H H2 p c nm tw m NS TS := ⟨h.ex.trans (Exd.ex e), h.f.more e, e _ _ h.n, e _ _ h.t⟩
/-- i = l.pop(..), the place drawn -/
theorem s_takeD {K : PySem.W.Frag} {σ : L2.St} {H H0 : Hp} {p c nm tw : Addr} {m : Nat} {NS TS : List Str} {ta tb td : TE} {D : Ends} (g : Gd H0 H p c nm tw m NS TS) (h1 : nm ≠ p) (h2 : tw ≠ p) (h3 : nm ≠ c) (h4 : tw ≠ c) (h5 : nm ≠ tw) (n1 : H0 nm = none) (n2 : H0 tw = none) (ha : Ev ta σ H (.ref tw)) (hb : ∀ H', Ex H H' → Ev tb σ H' (.ref nm)) (hd : ∀ H', Ex H H' → EvD td σ H' p c (m + 1) (IntP fun r => 0 ≤ r ∧ r < (NS.length : Int))) (hl : TS.length < 1000) (hns : NS.length < 1000)
    (k : ∀ (j : Nat) (x : Str) H1, NS[j]? = some x → Gd H0 H1 p c nm tw (m + 1) (NS.eraseIdx j) (TS ++ [x]) → Tk H H1 → D.nx σ H1) : tDrop (tBM K "list" rAppend ta (tCons (tBM K "list" rPopAt tb (tCons td tNil)) tNil)) D σ H := ha H (Ex.refl H) _ fun H1 e1 => by
  have g1 := g.more e1
  refine ⟨Or.inl ⟨rfl, _, Evl.sq_of g1.t⟩, hb H1 e1 H1 (Ex.refl H1) _ fun H2 e2 => ?_⟩
  have g2 := g1.more e2
  refine ⟨Or.inl ⟨rfl, _, Evl.sq_of g2.n⟩, hd H2 (e1.trans e2) _ fun v H3 x3 f3 hv => ?_⟩
  obtain ⟨r, rfl, r0, r1⟩ := hv
  obtain ⟨j, rfl⟩ : ∃ j : Nat, r = (j : Int) := ⟨r.toNat, by omega⟩
  have hj : j < NS.length := by omega
  have hn3 := x3 _ _ h1 g2.n
  have ht3 := x3 _ _ h2 g2.t
  have tk3 : Tk H H3 := (Tk.ex (e1.trans e2)).trans (x3.tk g2.f.nt)
  refine ⟨nm, NS.map V.str, (j : Int), j, .str NS[j], rfl, rfl, hn3, by omega, by omega, ?_, by simp [hj], ?_⟩
  · rw [List.length_map]
    exact seqIx hj
  · have tkn : Tk H3 (upd H3 nm (.lst ((NS.map V.str).eraseIdx j))) := Tk.upd fun xs z => by rw [hn3] at z; cases z
    have ht4 : (upd H3 nm (.lst ((NS.map V.str).eraseIdx j))) tw = some (.lst (TS.map V.str)) := by rw [upd_ne (Ne.symm h5)]; exact ht3
    refine ⟨tw, TS.map V.str, .str NS[j], rfl, rfl, ht4, Evl.sz_lt (by rw [List.length_map]; omega), ?_⟩
    refine k j NS[j] _ (List.getElem?_eq_getElem hj) ⟨fun a o na ho => ?_, (f3.upd h1 h3).upd h2 h4, ?_, ?_⟩ ((tk3.trans tkn).trans (Tk.upd fun xs z => by rw [ht4] at z; cases z))
    · rw [upd_ne (ne_of_none ho n2), upd_ne (ne_of_none ho n1)]
      exact x3 a o na (g2.ex a o na ho)
    · rw [upd_ne h5, upd_same, map_eraseIdx']
    · rw [upd_same, List.map_append]; rfl
/-- the wires between neighbours -/
def Chain (T : List Str) (E : List Wr) : Prop := ∀ (j : Nat) e, E[j]? = some e → T[j]? = some e.a ∧ T[j + 1]? = some e.b ∧ e.lo ≤ e.hi ∧ -1000 ≤ e.lo ∧ e.hi ≤ 1000
theorem Chain.snoc {T : List Str} {E : List Wr} (h : Chain T E) {e : Wr} (h1 : T[E.length]? = some e.a) (h2 : T[E.length + 1]? = some e.b) (h3 : e.lo ≤ e.hi) (h4 : -1000 ≤ e.lo) (h5 : e.hi ≤ 1000) : Chain T (E ++ [e]) := by
  intro j f hf
  by_cases hj : j < E.length
  · rw [List.getElem?_append_left hj] at hf
    exact h j f hf
  · rw [List.getElem?_append_right (by omega)] at hf
    have : j = E.length := by
      have := (List.getElem?_eq_some_iff.mp hf).1
      simp at this
      omega
    subst this
    simp at hf
    subst hf
    exact ⟨h1, h2, h3, h4, h5⟩
theorem Chain.wok {T : List Str} {E : List Wr} (h : Chain T E) : ∀ e ∈ E, WireIn T e := fun e he => by
  obtain ⟨j, hj⟩ := List.getElem?_of_mem he
  obtain ⟨h1, h2, h3, h4, h5⟩ := h j e hj
  exact ⟨⟨j, j + 1, Nat.lt_succ_self j, h1, h2⟩, h3, h4, h5⟩
theorem nd_get {T : List Str} (nd : T.Nodup) {i j : Nat} {x : Str} (hi : T[i]? = some x) (hj : T[j]? = some x) : i = j := by
  obtain ⟨h1, h2⟩ := List.getElem?_eq_some_iff.mp hi
  obtain ⟨h3, h4⟩ := List.getElem?_eq_some_iff.mp hj
  exact (List.getElem_inj nd).mp (h2.trans h4.symm)
theorem Chain.keys {T : List Str} (nd : T.Nodup) {E : List Wr} (h : Chain T E) : (E.map wkey).Nodup := by
  refine List.pairwise_map.mpr (List.pairwise_iff_getElem.mpr fun i j hi hj hij z => ?_)
  have h1 := (h i _ (List.getElem?_eq_getElem hi)).1
  have h2 := (h j _ (List.getElem?_eq_getElem hj)).1
  have : E[i].a = E[j].a := by
    have := (List.cons.inj z).1
    exact this
  rw [this] at h1
  have := nd_get nd h1 h2
  omega
theorem keys_more {T : List Str} (nd : T.Nodup) {E : List Wr} (h : Chain T E) {e : Wr} {m : Nat} (ha : T[0]? = some e.a) (hb : T[m]? = some e.b) (hm : 1 < m) : ((E ++ [e]).map wkey).Nodup := by
  rw [List.map_append]
  refine List.nodup_append.mpr ⟨h.keys nd, by simp, fun x hx y hy z => ?_⟩
  subst z
  obtain ⟨f, hf, rfl⟩ := List.mem_map.mp hx
  have hy : wkey f = wkey e := by simpa using hy
  obtain ⟨j, hj⟩ := List.getElem?_of_mem hf
  obtain ⟨h1, h2, _⟩ := h j f hj
  have e1 : f.a = e.a := (List.cons.inj hy).1
  have e2 : f.b = e.b := (List.cons.inj (List.cons.inj hy).2).1
  rw [e1] at h1
  rw [e2] at h2
  have := nd_get nd h1 ha
  have := nd_get nd h2 hb
  omega
theorem wires_of {H : Hp} : ∀ {E : List Wr} {vs : List V}, DenAll H vs (E.map dWire) → ∃ L : List (Addr × Wr), vs = L.map (fun p => V.ref p.1) ∧ L.map (·.2) = E ∧ ∀ p ∈ L, H p.1 = some (.tup [.str p.2.a, .str p.2.b, .int p.2.lo, .int p.2.hi])
  | [], _, h => by cases h; exact ⟨[], rfl, rfl, fun p hp => nomatch hp⟩
  | e :: E, _, h => by
    cases h with
    | cons h1 h2 =>
      obtain ⟨L, e1, e2, e3⟩ := wires_of h2
      obtain ⟨a, xs, rfl, ha, hd⟩ := Den.tuple h1
      obtain ⟨y1, y2, y3, y4, rfl, g1, g2, g3, g4⟩ := hd.four
      cases g1
      cases g2
      cases g3
      cases g4
      refine ⟨(a, e) :: L, by rw [e1]; rfl, by rw [← e2]; rfl, fun p hp => ?_⟩
      rcases List.mem_cons.mp hp with rfl | hp
      · exact ha
      · exact e3 p hp
theorem wires_den {H : Hp} : ∀ {L : List (Addr × Wr)}, (∀ p ∈ L, H p.1 = some (.tup [.str p.2.a, .str p.2.b, .int p.2.lo, .int p.2.hi])) → DenAll H (L.map fun p => V.ref p.1) ((L.map (·.2)).map dWire)
  | [], _ => .nil
  | p :: L, h => .cons (.tup (h p List.mem_cons_self) (.cons (.str _) (.cons (.str _) (.cons (.int _) (.cons (.int _) .nil))))) (wires_den fun q hq => h q (List.mem_cons_of_mem _ hq))
/-- tuple(sorted(rows)) -/
theorem evP_sortW {K : PySem.W.Frag} {σ : L2.St} {H : Hp} {te : TE} {l : Addr} {vs : List V} {E : List Wr} (h : Ev te σ H (.ref l)) (hl : H l = some (.lst vs)) (hd : DenAll H vs (E.map dWire)) (hn : E.length < 60) (nd : (E.map wkey).Nodup) :
    EvP (tCB (rTupOf K) (tCons (tCB (rSortW K) (tCons te tNil)) tNil)) σ H (fun v H' => ∃ E' : List Wr, E'.Perm E ∧ (E'.Pairwise fun x y => ltL (wkey x) (wkey y) = true) ∧ Den H' v (.tuple (E'.map dWire))) := fun H1 e Q q =>
  h H1 e _ fun H2 e2 => by
    have e02 := e.trans e2
    obtain ⟨L, rfl, rfl, at2⟩ := wires_of (hd.ex e02)
    rw [List.length_map] at hn
    rw [List.map_map] at nd
    refine ⟨l, L, rfl, Evl.sq_of (e02 l _ hl), at2, hn, nd, fun L' p pm so hp => ⟨p, _, rfl, .inl ⟨Evl.sq_of upd_same, fun t ht => q _ _ ((e2.trans (Ex.new hp)).trans (Ex.new ht)) ⟨L'.map (·.2), pm.map _, List.pairwise_map.mpr so, .tup upd_same ?_⟩⟩⟩⟩
    exact (wires_den fun q hq => Ex.new (o := .lst (L'.map fun q => V.ref q.1)) hp _ _ (at2 q (pm.mem_iff.mp hq))).ex (Ex.new ht)
/-- tuple(sorted(names)) -/
theorem evP_sortT {K : PySem.W.Frag} {σ : L2.St} {H : Hp} {te : TE} {l : Addr} {TS : List Str} (h : Ev te σ H (.ref l)) (hl : H l = some (.lst (TS.map V.str))) (hn : TS.length < 64) (nd : TS.Nodup) :
    EvP (tCB (rTupOf K) (tCons (tCB (rSortedS K) (tCons te tNil)) tNil)) σ H (fun v H' => ∃ T : List Str, T.Perm TS ∧ T.Pairwise ltS ∧ Den H' v (dLot T)) := fun H1 e Q q =>
  h H1 e _ fun H2 e2 => ⟨l, TS, rfl, Evl.sq_of ((e.trans e2) l _ hl), hn, fun ys p pm so hp => ⟨p, _, rfl, .inl ⟨Evl.sq_of upd_same, fun t ht => q _ _ ((e2.trans (Ex.new hp)).trans (Ex.new ht)) ⟨ys, pm, sorted_pw so (pm.nodup_iff.mpr nd), den_lot.mpr ⟨t, rfl, upd_same⟩⟩⟩⟩⟩
theorem evP_last {K : PySem.W.Frag} {σ : L2.St} {H : Hp} {te : TE} {T : List Str} {x : Str} (h : EvP te σ H (Da (dLot T))) (hx : T[T.length - 1]? = some x) (h0 : T ≠ []) : EvP (tOp (rIxT K) te (tUn (rU fun i => .int (-i)) (tC (.int 1)))) σ H (Da (.str x)) := fun H1 e Q q =>
  h H1 e _ fun v H2 e2 p => by
    obtain ⟨a, rfl, ha⟩ := den_lot.mp p
    refine (ev_un (ta := tC (.int 1)) ev_c ru_neg) H2 (Ex.refl H2) _ fun H3 e3 => ?_
    have et : T.map V.str = (T.dropLast.map V.str) ++ [.str x] := by
      have hl : T.getLast h0 = x := by
        rw [List.getLast_eq_getElem]
        exact (List.getElem?_eq_some_iff.mp hx).2
      rw [← hl, ← List.map_singleton, ← List.map_append, List.dropLast_concat_getLast]
    refine ⟨a, T.map V.str, -1, .str x, rfl, rfl, Evl.st_of (e3 a _ ha), ?_, q _ H3 (e2.trans e3) (.str x)⟩
    rw [et]
    exact atI_last _ _
def sp__law_ground : Sp := fun vs H Q _ => ∃ (p c : Addr) (mo : Nat) (n : Nat), vs = [V.ref p, .int (mo : Int)] ∧ 1 ≤ mo ∧ mo ≤ 5 ∧ FeedAt H p c n ∧ n ≤ 800000 ∧ ∀ v H' T E, Exd p H H' → FeedAt H' p c (n + 300) → TownIn T E → Den H' v (dTown T E) → Q v H'
abbrev st__law_ground : Stmt := topS 55
theorem sc__law_ground : FnScope ["_law_feed_here", "_law_most", "_law_names", "_law_towers", "_law_size", "_law_lap", "_law_kind", "_law_rows", "_law_k"] ["_law_feed_here", "_law_most"] (defScope st__law_ground) := ⟨rfl, rfl, rfl, by decide +kernel, rfl, by decide +kernel, by decide +kernel⟩

theorem ok__law_ground {f : Addr} {fd : FuncData} (D : Df K mg "_law_ground" st__law_ground ["_law_feed_here", "_law_most"] f fd) (B : Bn mg) (SW : SortW P w K) (c__law_draw : C8.Cal P w K mg base 1 "_law_draw" sp__law_draw []) (c__law_any : C8.Cal P w K mg base 2 "_law_any" sp__law_any []) (c__law_wires : C8.Cal P w K mg base 3 "_law_wires" sp__law_wires []) : C8.Cal P w K mg base 4 "_law_ground" sp__law_ground [] := by
  refine D.cal (D.F.ok (k := 3) sc__law_ground (fun vs H Q E h => by obtain ⟨p, c, mo, n, rfl, _⟩ := h; rfl) (fun cdv A outer s H vs Q E hr h => ?_))
  have hSW := SW
  obtain ⟨p, c, mo, n, rfl, hm1, hm5, hf, hn, q⟩ := h
  have nt0 := hf.nt
  refine ⟨_, (pss_cons (ps_asg (pe_lst (pa_cons pe_str (pa_cons pe_str (pa_cons pe_str (pa_cons pe_str (pa_cons pe_str (pa_cons pe_str (pa_cons pe_str (pa_cons pe_str pa_nil))))))))) (pg_name (i := 2) sc__law_ground.nd rfl (Or.inl rfl))) (pss_cons (ps_par (i := 3) (j := 4) rfl sc__law_ground.nd rfl rfl (by decide) rfl rfl (pa_cons (pe_lst pa_nil) (pa_cons (pe_op op_add pe_int (C8.pe_c c__law_any hr (by decide) (by rfl) (pa_cons (pv 0) (pa_cons (pe_lst (pa_cons pe_int (pa_cons pe_int (pa_cons pe_int (pa_cons pe_int (pa_cons pe_int (pa_cons pe_int (pa_cons pe_int (pa_cons pe_int pa_nil))))))))) pa_nil)))) pa_nil)) (by rfl)) (pss_cons (ps_for PassesOwn.never rfl (pi_range1 (by rfl) B.range (pa_cons (pe_callB (call_min2 rfl) (by rfl) B.min (by decide +kernel) (pa_cons (pv 4) (pa_cons (pv 1) pa_nil))) pa_nil)) (pg_name (i := 5) sc__law_ground.nd rfl (Or.inl rfl)) (pss_one (ps_expr (pe_bm PySem.F.plainAttrs_list PySem.F.slot_list_append PySem.F.type_list_append mt_append (pv 3) (pa_cons (pe_bm PySem.F.plainAttrs_list PySem.F.slot_list_pop PySem.F.type_list_pop mt_popAt (pv 2) (pa_cons (C8.pe_c c__law_draw hr (by decide) (by rfl) (pa_cons (pv 0) (pa_cons (pe_callB call_len_seq (by rfl) B.len boot_len (pa_cons (pv 2) pa_nil)) pa_nil))) pa_nil)) pa_nil))))) (pss_cons (ps_asg (pe_callTy call_tuple_of (by rfl) B.tuple (by decide +kernel) (pa_cons (pe_callB cr_sortedS (by rfl) B.sorted (by decide +kernel) (pa_cons (pv 3) pa_nil)) pa_nil)) (pg_name (i := 3) sc__law_ground.nd rfl (Or.inl rfl))) (pss_cons (ps_asg (C8.pe_c c__law_draw hr (by decide) (by rfl) (pa_cons (pv 0) (pa_cons pe_int pa_nil))) (pg_name (i := 6) sc__law_ground.nd rfl (Or.inl rfl))) (pss_cons (ps_if (PW.pt (pw_or (pt_cmpR op_lt (pv 6) pe_int (nomark _)) (pw_or1 (pt_cmpR op_lt (pe_callB call_len_seq (by rfl) B.len boot_len (pa_cons (pv 3) pa_nil)) pe_int (nomark _))))) (pss_one (ps_ret (pe_tup (pa_cons (pv 3) (pa_cons (C8.pe_c c__law_wires hr (by decide) (by rfl) (pa_cons (pv 0) (pa_cons (pv 3) (pa_cons (pe_op op_add pe_int (pe_op op_mul pe_int (pv 6))) pa_nil)))) pa_nil))))) pss_nil) (pss_cons (ps_asg (pe_lst pa_nil) (pg_name (i := 7) sc__law_ground.nd rfl (Or.inl rfl))) (pss_cons (ps_for PassesOwn.never rfl (pi_range1 (by rfl) B.range (pa_cons (pe_op op_sub (pe_callB call_len_seq (by rfl) B.len boot_len (pa_cons (pv 3) pa_nil)) pe_int) pa_nil)) (pg_name (i := 8) sc__law_ground.nd rfl (Or.inl rfl)) (pss_one (ps_expr (pe_bm PySem.F.plainAttrs_list PySem.F.slot_list_append PySem.F.type_list_append mt_append (pv 7) (pa_cons (pe_tup (pa_cons (pe_ix ix_tup (pv 3) (pv 8) (fun _ _ => rfl)) (pa_cons (pe_ix ix_tup (pv 3) (pe_op op_add (pv 8) pe_int) (fun _ _ => rfl)) (pa_cons (pe_op op_sub (C8.pe_c c__law_draw hr (by decide) (by rfl) (pa_cons (pv 0) (pa_cons pe_int pa_nil))) pe_int) (pa_cons (pe_op op_add pe_int (C8.pe_c c__law_draw hr (by decide) (by rfl) (pa_cons (pv 0) (pa_cons pe_int pa_nil)))) pa_nil))))) pa_nil))))) (pss_cons (ps_if (pt_cmpR op_eq (pv 6) pe_int (nomark _)) (pss_one (ps_expr (pe_bm PySem.F.plainAttrs_list PySem.F.slot_list_append PySem.F.type_list_append mt_append (pv 7) (pa_cons (pe_tup (pa_cons (pe_ix ix_tup (pv 3) pe_int (fun _ _ => rfl)) (pa_cons (pe_ix ix_tup (pv 3) (pe_un un_neg pe_int) (fun _ _ => rfl)) (pa_cons pe_int (pa_cons (C8.pe_c c__law_draw hr (by decide) (by rfl) (pa_cons (pv 0) (pa_cons pe_int pa_nil))) pa_nil))))) pa_nil)))) pss_nil) (pss_one (ps_ret (pe_tup (pa_cons (pv 3) (pa_cons (pe_callTy call_tuple_of (by rfl) B.tuple (by decide +kernel) (pa_cons (pe_callB (hSW _ rfl rfl rfl rfl hr.units) (by rfl) B.sorted (by decide +kernel) (pa_cons (pv 7) pa_nil)) pa_nil)) pa_nil)))))))))))))), ?_⟩
  refine q_asgL (el_lst (vs := allNames.map V.str) (ea_cons ev_c (ea_cons ev_c (ea_cons ev_c (ea_cons ev_c (ea_cons ev_c (ea_cons ev_c (ea_cons ev_c (ea_cons ev_c ea_nil)))))))) (show 8 ≤ 100000 by decide)) fun nm H1 nm0 e1 nm1 => ?_
  refine q_parD (p := p) (c := c) (m := n + 1) (P1 := fun v H' => ∃ tw, v = .ref tw ∧ H1 tw = none ∧ H' tw = some (.lst [])) (fun H2 e2 Q' q' => ⟨Nat.zero_le _, fun l hl => q' _ _ (Ex.new hl) ⟨l, rfl, fresh_back e2 hl, upd_same⟩⟩) (fun H2 e2 => d_opR (j := 1) (g := fun i j => i + j) (φ := fun r => r ∈ [1, 2, 2, 2, 3, 3, 4, 0]) ev_c (fun H' e' => d_any (ns := [1, 2, 2, 2, 3, 3, 4, 0]) (hf.more ((e1.trans e2).trans e')) (by omega) (ev_var rfl) (el_lst (vs := [.int 1, .int 2, .int 2, .int 2, .int 3, .int 3, .int 4, .int 0]) (ea_cons ev_c (ea_cons ev_c (ea_cons ev_c (ea_cons ev_c (ea_cons ev_c (ea_cons ev_c (ea_cons ev_c (ea_cons ev_c ea_nil)))))))) (show 8 ≤ 100000 by decide)) (by decide) (by decide)) fun i H' => rv_I0) fun x y H2 H3 e2 hx x3 f3 hy => ?_
  obtain ⟨tw, rfl, tw0, tw1⟩ := hx
  obtain ⟨sz, rfl, j0, hj0, rfl⟩ := hy
  have hj4 : 0 ≤ j0 ∧ j0 ≤ 4 := by simp at hj0; omega
  have hmn : nm ≠ tw := fun z => by rw [← z, nm1] at tw0; cases tw0
  have nmp : nm ≠ p := fun z => by
    obtain ⟨ns, s, r, t, k1, _⟩ := hf.ex
    rw [z, k1] at nm0; cases nm0
  have nmc : nm ≠ c := fun z => by
    obtain ⟨ns, s, r, t, _, k1, _⟩ := hf.ex
    rw [z, k1] at nm0; cases nm0
  have tw0H : H tw = none := fresh_back e1 tw0
  have twp : tw ≠ p := fun z => by
    obtain ⟨ns, s, r, t, k1, _⟩ := hf.ex
    rw [z, k1] at tw0H; cases tw0H
  have twc : tw ≠ c := fun z => by
    obtain ⟨ns, s, r, t, _, k1, _⟩ := hf.ex
    rw [z, k1] at tw0H; cases tw0H
  have g3 : Gd H H3 p c nm tw (n + 1) allNames [] := ⟨(Exd.ex (e1.trans e2)).trans x3, f3, x3 _ _ nmp (e2 _ _ nm1), x3 _ _ twp tw1⟩
  obtain ⟨N, hN, hN1, hN5⟩ : ∃ N : Nat, (if (mo : Int) < 1 + j0 then (mo : Int) else 1 + j0) = (N : Int) ∧ 1 ≤ N ∧ N ≤ 5 := by
    by_cases z : (mo : Int) < 1 + j0
    · exact ⟨mo, if_pos z, hm1, hm5⟩
    · exact ⟨(1 + j0).toNat, by rw [if_neg z]; omega, by omega, by omega⟩
  refine s_forT (D := { nx := _, rt := Q }) (srcT_range (n := N) (ea_cons (ev_is (ev_min2 (ev_var rfl) (ev_var rfl)) (by rw [← hN])) ea_nil) (by omega)) (fun H2 i σ' H' => Tk H2 H' ∧ (∃ NS TS : List Str, Gd H H' p c nm tw (n + 1 + i) NS TS ∧ (TS ++ NS).Perm allNames ∧ TS.length = i) ∧ ∃ a b d e, σ' = [some (.ref p), some (.int (mo : Int)), some (.ref nm), some (.ref tw), some (.int (1 + j0)), a, b, d, e]) (fun H4 e4 => ⟨Tk.refl _, ⟨allNames, [], g3.more e4, List.Perm.refl _, rfl⟩, _, _, _, _, rfl⟩) (fun _ _ _ _ _ p => p.1) ?_ ?_
  · rintro Hs es i k hik x σ' H0 H' ⟨r1, ⟨NS, TS, gd, pm, hTS⟩, a, b, d, e, rfl⟩ e0 rfl
    have hi : i < N := by
      have := (List.getElem?_eq_some_iff.mp hik).1
      rw [List.length_range] at this
      exact this
    refine evG_name H' (Ex.refl _) _ fun H4 e4 => ?_
    have gd4 := (gd.more e0).more e4
    have hNS : NS.length = 8 - i := by
      have := pm.length_eq
      rw [List.length_append, hTS] at this
      have h8 : allNames.length = 8 := rfl
      omega
    refine s_takeD gd4 nmp twp nmc twc hmn nm0 tw0H (ev_var rfl) (fun H' _ => ev_var rfl) (fun H' e' => fun Q' q' => d_draw (b := (NS.length : Int)) (gd4.f.more e') (by omega) (ev_var rfl) (ev_is (ev_lenL (ev_var rfl) (e' _ _ gd4.n)) (by rw [List.length_map])) (by omega) Q' fun v H'' h1 h2 h3 => q' v H'' h1 h2 (by
      obtain ⟨r, hr, r0, r1⟩ := h3
      exact ⟨r, hr, r0, by omega⟩)) (by omega) (by omega) fun j x H5 hj g5 tk5 => ?_
    refine ⟨((r1.trans (Tk.ex e0)).trans (Tk.ex e4)).trans tk5, ⟨NS.eraseIdx j, TS ++ [x], g5, ?_, by rw [List.length_append, hTS]; rfl⟩, _, _, _, _, rfl⟩
    refine List.Perm.trans ?_ pm
    rw [List.append_assoc]
    refine List.Perm.append_left TS ?_
    exact perm_erase NS j x hj
  · rintro Hs es σ' H' ⟨r1, ⟨NS, TS, gd, pm, hTS⟩, a, b, d, e, rfl⟩
    rw [List.length_range] at gd hTS
    have ndT : TS.Nodup := (List.nodup_append.mp (pm.nodup_iff.mpr names_nodup)).1
    refine q_asgP (evP_sortT (ev_var rfl) gd.t (by omega) ndT) fun tv H4 e4 htv => ?_
    obtain ⟨T, pmT, asc, hT⟩ := htv
    have lenT : T.length = N := by rw [pmT.length_eq, hTS]
    have nmT : ∀ x ∈ T, nameOk x := fun x hx => names_ok x (pm.mem_iff.mp (List.mem_append_left _ (pmT.mem_iff.mp hx)))
    have T0 : T ≠ [] := fun z => by rw [z] at lenT; simp at lenT; omega
    have T5 : T.length ≤ 5 := by omega
    have x4 : Exd p H H4 := gd.ex.trans (Exd.ex e4)
    have f4 : FeedAt H4 p c (n + 1 + N) := gd.f.more e4
    refine q_asgD (d_draw f4 (by omega) (ev_var rfl) ev_c (by decide)) fun kv H5 x5 f5 hkv => ?_
    obtain ⟨kd, rfl, kd0, kd1⟩ := hkv
    have hT5 : Den H5 tv (dLot T) := hT.tk (x5.tk f4.nt) _ _
    have x05 := x4.trans x5
    refine s_if (et_or (et_test (ev_lt (ev_var rfl) ev_c)) fun _ => et_test (ev_lt (ev_lenP (EvP.var rfl hT5)) ev_c)) (fun hb H6 e6 => ?_) fun hb H6 e6 => ?_
    · have hT6 := hT5.ex e6
      refine s_ret2 (v := tv) (ev_var rfl) fun H7 e7 => ?_
      refine d_wires (f5.more (e6.trans e7)) (by omega) (ev_var rfl) (EvP.var rfl (hT6.ex e7)) (ev_add ev_c (ev_mul ev_c (ev_var rfl) (by decide))) T5 asc (by omega) _ fun wv H8 x8 f8 hwv => ?_
      obtain ⟨E, hW, hE⟩ := hwv
      refine ⟨show 2 ≤ sizeLine by decide, fun t ht => ?_⟩
      have et := Ex.new (o := .tup [tv, wv]) ht
      refine q _ _ T E (((x05.trans (Exd.ex (e6.trans e7))).trans x8).trans (Exd.ex et)) ((f8.more et).le (by omega)) (townIn_of T0 T5 nmT asc hW) (.tup upd_same (.cons ?_ (.cons (hE.ex et) .nil)))
      exact (((hT6.ex e7).tk (x8.tk (f5.more (e6.trans e7)).nt) _ _)).ex et
    have hl3 : 3 ≤ T.length := by
      rw [Bool.or_eq_false_iff] at hb
      have := of_decide_eq_false hb.2
      rw [List.length_map] at this
      have t2 : ¬ ((T.length : Nat) : Int) < 3 := this
      omega
    have hT6 := hT5.ex e6
    have f6 := f5.more e6
    have x06 := x05.trans (Exd.ex e6)
    refine q_asgP (evP_lst ead_nil (by decide)) fun lv H7 e7 hl => ?_
    obtain ⟨l, ys, rfl, hl0, hl1, hy⟩ := hl
    have hlp : l ≠ p := fun z => by
      obtain ⟨ns, s, r, t, k1, _⟩ := f6.ex
      rw [z, k1] at hl0; cases hl0
    have hlc : l ≠ c := fun z => by
      obtain ⟨ns, s, r, t, _, k1, _⟩ := f6.ex
      rw [z, k1] at hl0; cases hl0
    have fl0 : FL H6 H7 p c l (n + 1 + N + 1) (([] : List Wr).map dWire) := ⟨Exd.ex e7, f6.more e7, ys, hl1, hy⟩
    refine s_forT (D := { nx := _, rt := Q }) (srcT_range (n := T.length - 1) (fun Hx ex Qx qx => (ea_cons (ev_is (ev_sub (ev_lenP (EvP.var rfl ((hT6.ex e7).ex ex))) ev_c) (by rw [List.length_map]; congr 1; omega)) ea_nil) Hx (Ex.refl Hx) _ fun H4 e4 => qx H4 e4) (by omega)) (fun H2 i σ' H' => Tk H2 H' ∧ (∃ E : List Wr, FL H6 H' p c l (n + 1 + N + 1 + 2 * i) (E.map dWire) ∧ Chain T E ∧ E.length = i) ∧ ∃ d, σ' = [some (.ref p), some (.int (mo : Int)), some (.ref nm), some tv, some (.int (1 + j0)), a, some (.int kd), some (.ref l), d]) (fun H2 e2 => ⟨Tk.refl _, ⟨[], fl0.more e2, (fun j e h => by simp at h), rfl⟩, _, rfl⟩) (fun _ _ _ _ _ p => p.1) ?_ ?_
    · rintro Hs2 es2 i k hik x σ' H8 H9 ⟨t1, ⟨E2, fl, ch, hE2⟩, d, rfl⟩ e9 rfl
      obtain ⟨hi, rfl⟩ : k < T.length - 1 ∧ i = k := by
        obtain ⟨h1, h2⟩ := List.getElem?_eq_some_iff.mp hik
        rw [List.length_range] at h1
        rw [List.getElem_range] at h2
        exact ⟨h2 ▸ h1, h2⟩
      refine evG_name H9 (Ex.refl _) _ fun H10 e10 => ?_
      have fl10 := (fl.more e9).more e10
      have tk10 := (t1.trans (Tk.ex e9)).trans (Tk.ex e10)
      have hT10 : Den H10 tv (dLot T) := hT6.tk (fl10.tk f6.nt) _ _
      obtain ⟨zs, hz1, hz2⟩ := fl10.l
      have h1 : T[i]? = some T[i] := List.getElem?_eq_getElem (by omega)
      have h2 : T[i + 1]? = some T[i + 1] := List.getElem?_eq_getElem (by omega)
      refine s_appD (l := l) (c := c) (P := fun v H' => ∃ lo hi : Int, -1000 ≤ lo ∧ lo ≤ hi ∧ hi ≤ 1000 ∧ Den H' v (dWire ⟨T[i], T[i + 1], lo, hi⟩)) ⟨zs, hz1⟩ (ev_var rfl) (fun H11 e11 => fun Q' q' => ?_) hlp (fun xs hxs => ?_) (fun v H11 xs hx0 hx1 x11 f11 hv => ?_) (m := n + 1 + N + 1 + 2 * i + 1 + 1)
      · have hT11 := hT10.ex e11
        refine EvP.go (evP_ix (i := i) (EvP.var rfl hT11) (ev_var rfl) (mapGet PyData.str h1)) fun v1 H12 e12 hv1 => ?_
        refine EvP.go (evP_ix (i := i + 1) (EvP.var rfl (hT11.ex e12)) (ev_is (ev_add (ev_var rfl) ev_c) (by show V.int ((i : Int) + 1) = V.int ((i + 1 : Nat) : Int); congr 1)) (mapGet PyData.str h2)) fun v2 H13 e13 hv2 => ?_
        have f13 := fl10.f.more ((e11.trans e12).trans e13)
        refine (d_opL (g := fun i j => i - j) (d_draw f13 (by omega) (ev_var rfl) ev_c (by decide)) (fun H' => ev_c) fun i H' => rv_I0) _ fun v3 H14 x14 f14 hv3 => ?_
        obtain ⟨lo, rfl, i0, ⟨hi0, hi1⟩, rfl⟩ := hv3
        refine (d_opR (j := 1) (g := fun i j => i + j) (φ := fun r => 0 ≤ r ∧ (r < 4 ∨ r = 0)) ev_c (fun H' e' => d_draw (f14.more e') (by omega) (ev_var rfl) ev_c (by decide)) fun i H' => rv_I0) _ fun v4 H15 x15 f15 hv4 => ?_
        obtain ⟨hh, rfl, i1, ⟨hi2, hi3⟩, rfl⟩ := hv4
        refine ⟨show 4 ≤ sizeLine by decide, fun t ht => ?_⟩
        have et := Ex.new (o := .tup [v1, v2, .int (i0 - 1), .int (1 + i1)]) ht
        have d1 : Den H12 v1 (.str T[i]) := hv1
        have d2 : Den H13 v2 (.str T[i + 1]) := hv2
        refine q' _ _ ((((Exd.ex (e12.trans e13)).trans x14).trans x15).trans (Exd.ex et)) (f15.more et) ⟨i0 - 1, 1 + i1, by omega, by omega, by omega, .tup upd_same (.cons ?_ (.cons ?_ (.cons (.int _) (.cons (.int _) .nil))))⟩
        · exact (((d1.ex e13).tk (x14.tk f13.nt) _ _).tk (x15.tk f14.nt) _ _).ex et
        · exact ((d2.tk (x14.tk f13.nt) _ _).tk (x15.tk f14.nt) _ _).ex et
      · rw [hz1] at hxs
        cases hxs
        rw [hz2.len, List.length_map]
        omega
      · rw [hz1] at hx0
        cases hx0
        obtain ⟨lo, hh, g1, g2, g3, hd⟩ := hv
        have fl11 := fl10.draw hlp x11 f11
        have tk11 := tk10.trans (x11.tk fl10.f.nt)
        have tkl : Tk H11 (upd H11 l (.lst (zs ++ [v]))) := Tk.upd fun xs z => by rw [hx1] at z; cases z
        refine ⟨tk11.trans tkl, ⟨E2 ++ [⟨T[i], T[i + 1], lo, hh⟩], ?_, ch.snoc (by rw [hE2]; exact h1) (by rw [hE2]; exact h2) g2 g1 g3, by rw [List.length_append, hE2]; rfl⟩, _, rfl⟩
        rw [List.map_append]
        exact fl11.app hlp hlc hl0 hx1 (hz2.tk (x11.tk fl10.f.nt) _ _) hd
    · rintro Hs2 es2 σ' H8 ⟨t1, ⟨E2, fl, ch, hE2⟩, d, rfl⟩
      rw [List.length_range] at fl hE2
      -- the end, with all rows
      have fin : ∀ (Hx : Hp) (E : List Wr) (m : Nat), FL H6 Hx p c l m (E.map dWire) → m ≤ n + 300 → E.length ≤ 8 → (∀ e ∈ E, WireIn T e) → (E.map wkey).Nodup →
          tRet (tTup (tCons (tVar 3) (tCons (tCB (rTupOf K) (tCons (tCB (rSortW K) (tCons (tVar 7) tNil)) tNil)) tNil))) { nx := fun _ H' => Q .non H', rt := Q } [some (.ref p), some (.int (mo : Int)), some (.ref nm), some tv, some (.int (1 + j0)), a, some (.int kd), some (.ref l), d] Hx := by
        intro Hx E m flx hm hE hw nd
        obtain ⟨zs, hz1, hz2⟩ := flx.l
        have hTx : Den Hx tv (dLot T) := hT6.tk (flx.tk f6.nt) _ _
        refine s_ret2 (v := tv) (ev_var rfl) fun Hy ey => ?_
        refine EvP.go (evP_sortW (K := K) (te := tVar 7) (ev_var rfl) (ey l _ hz1) (hz2.ex ey) (by omega) nd) fun wv Hz ez hwv => ?_
        obtain ⟨E', pmE, so, hE'⟩ := hwv
        refine ⟨show 2 ≤ sizeLine by decide, fun t ht => ?_⟩
        have et := Ex.new (o := .tup [tv, wv]) ht
        have eyz := (ey.trans ez).trans et
        refine q _ _ T E' ((x06.trans flx.ex).trans (Exd.ex eyz)) ((flx.f.more eyz).le hm) (townIn_of T0 T5 nmT asc ⟨by rw [pmE.length_eq]; exact hE, fun e he => hw e (pmE.mem_iff.mp he), so⟩) (.tup upd_same (.cons (hTx.ex eyz) (.cons (hE'.ex et) .nil)))
      have ndT' : T.Nodup := asc_nodup asc
      refine s_if (et_test (ev_eqI (ev_var rfl) ev_c)) (fun hk H9 e9 => ?_) fun hk H9 e9 => ?_
      · have fl9 := fl.more e9
        obtain ⟨zs, hz1, hz2⟩ := fl9.l
        have hT9 : Den H9 tv (dLot T) := hT6.tk (fl9.tk f6.nt) _ _
        have h1 : T[0]? = some T[0] := List.getElem?_eq_getElem (by omega)
        have h2 : T[T.length - 1]? = some T[T.length - 1] := List.getElem?_eq_getElem (by omega)
        refine s_appD (l := l) (c := c) (P := fun v H' => ∃ hi : Int, 0 ≤ hi ∧ hi ≤ 1000 ∧ Den H' v (dWire ⟨T[0], T[T.length - 1], 0, hi⟩)) ⟨zs, hz1⟩ (ev_var rfl) (fun H11 e11 => fun Q' q' => ?_) hlp (fun xs hxs => ?_) (fun v H11 xs hx0 hx1 x11 f11 hv => ?_) (m := n + 1 + N + 1 + 2 * (T.length - 1) + 1)
        · have hT11 := hT9.ex e11
          refine EvP.go (evP_ix (i := 0) (EvP.var rfl hT11) ev_c (mapGet PyData.str h1)) fun v1 H12 e12 hv1 => ?_
          refine EvP.go (evP_last (EvP.var rfl (hT11.ex e12)) h2 T0) fun v2 H13 e13 hv2 => ?_
          refine (ev_c (v := .int 0)) H13 (Ex.refl _) _ fun H14 e14 => ?_
          have f14 := fl9.f.more (((e11.trans e12).trans e13).trans e14)
          refine d_draw f14 (by omega) (ev_var rfl) ev_c (by decide) _ fun v3 H15 x15 f15 hv3 => ?_
          obtain ⟨i1, rfl, hi2, hi3⟩ := hv3
          refine ⟨show 4 ≤ sizeLine by decide, fun t ht => ?_⟩
          have et := Ex.new (o := .tup [v1, v2, .int 0, .int i1]) ht
          have d1 : Den H12 v1 (.str T[0]) := hv1
          have d2 : Den H13 v2 (.str T[T.length - 1]) := hv2
          refine q' _ _ (((Exd.ex ((e12.trans e13).trans e14)).trans x15).trans (Exd.ex et)) (f15.more et) ⟨i1, hi2, by omega, .tup upd_same (.cons ?_ (.cons ?_ (.cons (.int _) (.cons (.int _) .nil))))⟩
          · exact ((d1.ex (e13.trans e14)).tk (x15.tk f14.nt) _ _).ex et
          · exact ((d2.ex e14).tk (x15.tk f14.nt) _ _).ex et
        · rw [hz1] at hxs
          cases hxs
          rw [hz2.len, List.length_map]
          omega
        · rw [hz1] at hx0
          cases hx0
          obtain ⟨hh, g1, g2, hd⟩ := hv
          have fl11 := fl9.draw hlp x11 f11
          refine fin _ (E2 ++ [⟨T[0], T[T.length - 1], 0, hh⟩]) (n + 1 + N + 1 + 2 * (T.length - 1) + 1) ?_ (by omega) (by rw [List.length_append, hE2]; show _ + 1 ≤ _; omega) (fun e he => ?_) (keys_more ndT' ch h1 h2 (by omega))
          · rw [List.map_append]
            exact fl11.app hlp hlc hl0 hx1 (hz2.tk (x11.tk fl9.f.nt) _ _) hd
          · rcases List.mem_append.mp he with he | he
            · exact ch.wok e he
            · rw [List.mem_singleton.mp he]
              exact ⟨⟨0, T.length - 1, by omega, h1, h2⟩, g1, show (-1000 : Int) ≤ 0 by decide, g2⟩
      · exact fin H9 E2 _ (fl.more e9) (by omega) (by omega) ch.wok (ch.keys ndT')
end
end Nh

namespace Nh
open PySem PySem.Spec PyProof.Rows L2 Evl
section
variable {P : Program} {w : World} {K : PySem.W.Frag} {mg : Str → Option Value} {base : Heap}

abbrev sk (k : List Str) : List Key := k.map Sum.inr
/-- sorted(d.keys()), the keys tuples of texts -/
def tSortKeys (td : TE) : TE := fun σ H Q => td σ H fun x H1 => ∃ (d : Addr) (kvs : List (List Key × V)) (ks : List (List Str)), x = V.ref d ∧ H1 d = some (.dT kvs) ∧ kvs.map (·.1) = ks.map sk ∧ ks.length < 60 ∧
  ∀ (L : Lots) (p : Addr), (L.map (·.2)).Perm ks → LotsAt H1 L → (L.Pairwise fun a b => ltL b.2 a.2 = false) → H1 p = none → Q (.ref p) (upd H1 p (.lst (L.map fun q => V.ref q.1)))
def SortKeys (P : Program) (w : World) (K : PySem.W.Frag) : Prop := ∀ (X : Cx) (e : Expr) (te : TE) (p1 p2 p3 p4 : Pos), X.calm = true → X.prog = P → X.w = w → X.K = K → X.A.units + 64 < cLine → Gl X "sorted" → X.mg "sorted" = none → PE X e te →
  attributeBase e "keys" X.env (eval e X.env) = eval e X.env → (p2.endLine == p3.line) = true → starEach [.Call (.Attribute e "keys" p2) [] [] p3] X.env = (false, eval (.Call (.Attribute e "keys" p2) [] [] p3) X.env) :: starEach [] X.env →
  PE X (.Call (.Name "sorted" p1) [.Call (.Attribute e "keys" p2) [] [] p3] [] p4) (tSortKeys te)
/-- the dict at d has these keys -/
def KnownAt (H : Hp) (d : Addr) (ks : List (List Str)) : Prop := ∃ kvs : List (List Key × V), H d = some (.dT kvs) ∧ kvs.map (·.1) = ks.map sk
theorem KnownAt.ex {H H' : Hp} {d : Addr} {ks : List (List Str)} (h : KnownAt H d ks) (e : Ex H H') : KnownAt H' d ks := by
  obtain ⟨kvs, h1, h2⟩ := h
  exact ⟨kvs, e d _ h1, h2⟩
theorem sk_inj {a b : List Str} (h : sk a = sk b) : a = b := by
  induction a generalizing b with
  | nil => cases b with
    | nil => rfl
    | cons => cases h
  | cons x a ih =>
    cases b with
    | nil => cases h
    | cons y b =>
      have h1 := List.cons.inj h
      rw [Sum.inr.inj h1.1, ih h1.2]
theorem valT_isSome {κ : Type} [DecidableEq κ] (k : κ) : ∀ kvs : List (κ × V), (valV kvs k).isSome = decide (k ∈ kvs.map (·.1))
  | [] => rfl
  | q :: kvs => by
    by_cases e : q.1 = k
    · rw [valV_pos e]
      simp [e]
    · rw [valV_neg e, valT_isSome k kvs]
      have : ¬ k = q.1 := fun z => e z.symm
      simp [this]
theorem putT_keys {κ : Type} [DecidableEq κ] {kvs : List (κ × V)} {k : κ} {v : V} (h : k ∈ kvs.map (·.1)) : (putK kvs k v).map (·.1) = kvs.map (·.1) := by
  unfold putK
  rw [valV_any, valT_isSome, if_pos (decide_eq_true h), List.map_map]
  congr 1
  funext kv
  show (if kv.1 = k then (kv.1, v) else kv).1 = kv.1
  split <;> rfl
theorem putT_new {κ : Type} [DecidableEq κ] {kvs : List (κ × V)} {k : κ} {v : V} (h : k ∉ kvs.map (·.1)) : (putK kvs k v).map (·.1) = kvs.map (·.1) ++ [k] := by
  have : valV kvs k = none := by
    have := valT_isSome k kvs
    rw [decide_eq_false h] at this
    exact Option.isNone_iff_eq_none.mp (by rw [Option.isNone_iff_eq_none]; cases hv : valV kvs k with
      | none => rfl
      | some x => rw [hv] at this; cases this)
  rw [putK_new v this, List.map_append]
  rfl
/-- the keys with one more -/
def addK (ks : List (List Str)) (k : List Str) : List (List Str) := if k ∈ ks then ks else ks ++ [k]
theorem mem_addK {ks : List (List Str)} {k x : List Str} : x ∈ addK ks k ↔ x ∈ ks ∨ x = k := by
  unfold addK
  split
  · rename_i h
    exact ⟨.inl, fun z => z.elim id fun e => by rw [e]; exact h⟩
  · rw [List.mem_append, List.mem_singleton]
theorem addK_nd {ks : List (List Str)} {k : List Str} (h : ks.Nodup) : (addK ks k).Nodup := by
  unfold addK
  split
  · exact h
  · rename_i hk
    exact List.nodup_append.mpr ⟨h, by simp, fun a ha b hb e => by rw [List.mem_singleton.mp hb] at e; rw [e] at ha; exact hk ha⟩
theorem addK_len {ks : List (List Str)} {k : List Str} : (addK ks k).length ≤ ks.length + 1 := by
  unfold addK
  split
  · omega
  · rw [List.length_append]; exact Nat.le_refl _
theorem known_put {kvs : List (List Key × V)} {ks : List (List Str)} (h : kvs.map (·.1) = ks.map sk) (k : List Str) (v : V) : (putK kvs (sk k) v).map (·.1) = (addK ks k).map sk := by
  unfold addK
  have hm : sk k ∈ kvs.map (·.1) ↔ k ∈ ks := by
    rw [h, List.mem_map]
    exact ⟨fun ⟨x, hx, e⟩ => by rw [← sk_inj e]; exact hx, fun hk => ⟨k, hk, rfl⟩⟩
  by_cases hk : k ∈ ks
  · rw [putT_keys (hm.mpr hk), if_pos hk, h]
  · rw [putT_new (fun z => hk (hm.mp z)), if_neg hk, h, List.map_append]; rfl
/-- d[t] = v, t a tuple of texts -/
theorem s_dputT {σ : L2.St} {H : Hp} {td ty tv : TE} {D : Ends} {d : Addr} {ks : List (List Str)} {v : V} {P : List Str → Prop} (hv : Ev tv σ H v) (hd : ∀ H', Ex H H' → Ev td σ H' (.ref d)) (hk : EvP ty σ H (fun v H' => ∃ k, P k ∧ Den H' v (dLot k))) (hK : KnownAt H d ks) (hl : ks.length < 100000)
    (k : ∀ k H1 kvs, P k → Ex H H1 → H1 d = some (.dT kvs) → kvs.map (·.1) = ks.map sk → D.nx σ (upd H1 d (.dT (putK kvs (sk k) v)))) : sDPut td ty tv D σ H :=
  hv H (Ex.refl H) _ fun H1 e1 => hd H1 e1 H1 (Ex.refl H1) _ fun H2 e2 => hk H2 (e1.trans e2) _ fun y H3 e3 hy => by
    obtain ⟨kk, hp, hden⟩ := hy
    obtain ⟨a, rfl, ha⟩ := den_lot.mp hden
    obtain ⟨kvs, h1, h2⟩ := hK
    have e03 := (e1.trans e2).trans e3
    have hlen : kvs.length = ks.length := by
      have := congrArg List.length h2
      rw [List.length_map, List.length_map] at this
      exact this
    refine ⟨d, _, rfl, DPut.t (k := sk kk) (e03 d _ h1) ?_ (Evl.sz_lt (by omega)), k kk H3 kvs hp e03 (e03 d _ h1) h2⟩
    rw [ha, List.map_map]
    rfl
/-- sorted(d.keys()) -/
theorem evP_sortKeys {σ : L2.St} {H : Hp} {td : TE} {d : Addr} {ks : List (List Str)} (h : Ev td σ H (.ref d)) (hK : KnownAt H d ks) (hl : ks.length < 60) : EvP (tSortKeys td) σ H (fun v H' => ∃ ks' : List (List Str), ks'.Perm ks ∧ (ks'.Pairwise fun a b => ltL b a = false) ∧ ND H (ks'.map dLot) v H') := fun H1 e Q q =>
  h H1 e _ fun H2 e2 => by
    obtain ⟨kvs, h1, h2⟩ := hK
    have e02 := e.trans e2
    refine ⟨d, kvs, ks, rfl, e02 d _ h1, h2, hl, fun L p pm at_ so hp => q _ _ (e2.trans (Ex.new hp)) ⟨L.map (·.2), pm, List.pairwise_map.mpr so, p, _, rfl, fresh_back e02 hp, upd_same, ?_⟩⟩
    exact lots_den fun q hq => Ex.new hp _ _ (at_ q hq)
/-- a comprehension over a tuple, each tower kept by a draw -/
theorem lcD {wi : TI} {td : TE} {i : Nat} {vs : List Nat} {σ : L2.St} {H : Hp} {p c : Addr} {m : Nat} {T : List Str} (hs : SrcT wi σ H T (fun s x _ => x = .str s)) (hf : FeedAt H p c m) (hw : wipe ((wipe σ vs).set i none) vs = wipe σ vs) (hws : ∀ v, wipe ((wipe σ vs).set i (some v)) vs = wipe σ vs) (hi : ∀ v, ((wipe σ vs).set i (some v))[i]? = some (some v)) (hT : T.length ≤ 1000)
    (hd : ∀ (x : Str) m' H', Exd p H H' → FeedAt H' p c m' → m' < m + T.length → EvD td ((wipe σ vs).set i (some (.str x))) H' p c (m' + 1) (IntP fun _ => True)) :
    EvD (tLc wi (gName i) (tTest (tOp rEq td (tC (.int 0)))) (tVar i) vs) σ H p c (m + T.length) (fun v H' => ∃ (q : Addr) (l : List Str), v = .ref q ∧ H q = none ∧ l.Sublist T ∧ H' q = some (.lst (l.map V.str))) := by
  intro Q q
  refine hs H (Ex.refl H) _ fun J H2 G Y e2 w hG hY => fun D hD => ?_
  have f2 := hf.more e2
  have ntp := f2.nt
  have hpD : p ≠ D := fun z => by
    obtain ⟨ns, s, r, t, k1, _⟩ := f2.ex
    rw [z, hD] at k1; cases k1
  have hcD : c ≠ D := fun z => by
    obtain ⟨ns, s, r, t, _, k1, _⟩ := f2.ex
    rw [z, hD] at k1; cases k1
  refine lc_it w (fun i H' => Exd p H2 H' ∧ FeedAt H' p c (m + i) ∧ ∃ l : List Str, H' D = some (.lst (l.map V.str)) ∧ l.Sublist (T.take i)) ⟨Exd.ex (Ex.new hD), f2.upd (Ne.symm hpD) (Ne.symm hcD), [], upd_same, List.nil_sublist _⟩ (fun i H' _ h => hG H' (h.1.tk ntp)) ?_ ?_
  · rintro j x Ha Hb hj ⟨p1, pf, l, p2, p3⟩ y
    obtain ⟨e3, a, ha, rfl⟩ := hY j x Ha Hb (p1.tk ntp) y hj
    have xb : Exd p H2 Hb := p1.trans (Exd.ex e3)
    refine ⟨hws _, ?_⟩
    refine hd a (m + j) Hb ((Exd.ex e2).trans xb) (pf.more e3) (by omega) _ fun v H3 x3 f3 hv => ?_
    obtain ⟨r, rfl, _⟩ := hv
    refine ⟨rfl, _, rfl, ?_⟩
    have hD3 : H3 D = some (.lst (l.map V.str)) := x3 D _ (Ne.symm hpD) (e3 D _ p2)
    have stp : T.take (j + 1) = T.take j ++ [a] := by rw [List.take_add_one, ha]; rfl
    by_cases hr : V.int r = V.int 0
    · rw [decide_eq_true hr]
      refine (if_pos rfl).mpr ?_
      refine ⟨.str a, hi _, l.map V.str, hD3, Evl.sz_lt ?_, fun b o nb ho => ?_, f3.upd (Ne.symm hpD) (Ne.symm hcD), l ++ [a], by rw [upd_same, List.map_append]; rfl, by rw [stp]; exact p3.append (List.Sublist.refl _)⟩
      · rw [List.length_map]
        have := p3.length_le
        rw [List.length_take] at this
        omega
      · rw [upd_ne (ne_of_none ho hD)]
        exact x3 b o nb (xb b o nb ho)
    · rw [decide_eq_false hr]
      refine (if_neg Bool.false_ne_true).mpr ?_
      exact ⟨xb.trans x3, f3, l, hD3, by rw [stp]; exact p3.trans (List.sublist_append_left _ _)⟩
  · rintro H' ⟨p1, pf, l, p2, p3⟩
    rw [List.take_length] at p3
    exact q _ H' ((Exd.ex e2).trans p1) pf ⟨D, l, rfl, fresh_back e2 hD, p3, p2⟩
theorem srcT_lot {K : PySem.W.Frag} {σ : L2.St} {H : Hp} {te : TE} {l : List Str} (h : EvP te σ H (Da (dLot l))) : SrcT (iTup K te) σ H l (fun s x _ => x = .str s) :=
  (srcT_P h).map (f := PyData.str) fun b _ x H' t => by cases t; rfl
theorem s_forRD {σ : L2.St} {H : Hp} {p c : Addr} {m : Nat} {te : TE} {g : TG} {tb : TS} {D : Ends} {φ : Int → Prop} (h : EvD te σ H p c m (IntP φ)) (k : ∀ r H1, Exd p H H1 → FeedAt H1 p c m → φ r → tFor (iRng1 (tCons (tC (.int r)) tNil)) g tb D σ H1) : tFor (iRng1 (tCons te tNil)) g tb D σ H :=
  h _ fun v H1 x1 f1 hv => by
    obtain ⟨r, rfl, hr⟩ := hv
    exact k r H1 x1 f1 hr
theorem q_asgTup2D {K : PySem.W.Frag} {σ : L2.St} {H : Hp} {p c : Addr} {m : Nat} {ta tb : TE} {tz : TS} {D : Ends} {i j : Nat} {P1 P2 : PP} (h : EvP ta σ H P1) (h' : ∀ H1, Ex H H1 → EvD tb σ H1 p c m P2) (k : ∀ x y H1 H2 H3, Ex H H1 → P1 x H1 → Exd p H1 H2 → FeedAt H2 p c m → P2 y H2 → Ex H2 H3 → tz D ((σ.set i (some x)).set j (some y)) H3) : tSeq (tAsg (tTup (tCons ta (tCons tb tNil))) (gTup K 2 (gCons (gName i) (gCons (gName j) gNil)))) tz D σ H :=
  h H (Ex.refl H) _ fun x H1 e1 p1 => h' H1 e1 _ fun y H2 x2 f2 p2 => ⟨show 2 ≤ sizeLine by decide, fun t ht => ⟨t, [x, y], rfl, Evl.st_of upd_same, rfl, x, [y], rfl, y, [], rfl, rfl, k x y H1 H2 _ e1 p1 x2 f2 p2 (Ex.new ht)⟩⟩
theorem d_ifI {σ : L2.St} {H : Hp} {p c : Addr} {m : Nat} {t : TT} {ta tb : TE} {b : Bool} {P : PP} (h : EvT t σ H b) (h1 : ∀ H', Ex H H' → b = true → EvD ta σ H' p c m P) (h2 : ∀ H', Ex H H' → b = false → EvD tb σ H' p c m P) : EvD (tIf t ta tb) σ H p c m P := fun Q q =>
  h H (Ex.refl H) _ fun H1 e1 => by
    cases b with
    | true =>
      show ta σ H1 Q
      exact h1 H1 e1 rfl Q fun v H2 x2 => q v H2 ((Exd.ex e1).trans x2)
    | false =>
      show tb σ H1 Q
      exact h2 H1 e1 rfl Q fun v H2 x2 => q v H2 ((Exd.ex e1).trans x2)
theorem d_of {σ : L2.St} {H : Hp} {p c : Addr} {m m' : Nat} {te : TE} {P : PP} (hf : FeedAt H p c m) (hm : m ≤ m') (h : EvP te σ H P) : EvD te σ H p c m' P := fun Q q => h H (Ex.refl H) Q fun v H1 e1 pv => q v H1 (Exd.ex e1) ((hf.more e1).le hm) pv
theorem d_tupOf {K : PySem.W.Frag} {σ : L2.St} {H : Hp} {p c : Addr} {m : Nat} {te : TE} {T : List Str} (h : EvD te σ H p c m (fun v H' => ∃ (q : Addr) (l : List Str), v = .ref q ∧ H q = none ∧ l.Sublist T ∧ H' q = some (.lst (l.map V.str)))) : EvD (tCB (rTupOf K) (tCons te tNil)) σ H p c m (fun v H' => ∃ l : List Str, l.Sublist T ∧ Den H' v (dLot l)) := fun Q q =>
  h _ fun v H1 x1 f1 hv => by
    obtain ⟨a, l, rfl, _, hs, ha⟩ := hv
    exact ⟨a, _, rfl, .inl ⟨Evl.sq_of ha, fun t ht => q _ _ (x1.trans (Exd.ex (Ex.new ht))) (f1.more (Ex.new ht)) ⟨l, hs, den_lot.mpr ⟨t, rfl, upd_same⟩⟩⟩⟩
theorem s_dputD {σ : L2.St} {H : Hp} {p c : Addr} {m : Nat} {td ty tv : TE} {D : Ends} {d : Addr} {ks : List (List Str)} {v : V} {T : List Str} (hv : Ev tv σ H v) (hd : ∀ H', Ev td σ H' (.ref d)) (hk : ∀ H', Ex H H' → EvD ty σ H' p c m (fun v H' => ∃ l : List Str, l.Sublist T ∧ Den H' v (dLot l))) (hK : KnownAt H d ks) (ne : d ≠ p) (hl : ks.length < 100000)
    (k : ∀ l H1 kvs, l.Sublist T → Exd p H H1 → FeedAt H1 p c m → H1 d = some (.dT kvs) → kvs.map (·.1) = ks.map sk → D.nx σ (upd H1 d (.dT (putK kvs (sk l) v)))) : sDPut td ty tv D σ H :=
  hv H (Ex.refl H) _ fun H1 e1 => hd H1 H1 (Ex.refl H1) _ fun H2 e2 => hk H2 (e1.trans e2) _ fun y H3 x3 f3 hy => by
    obtain ⟨l, hs, hden⟩ := hy
    obtain ⟨a, rfl, ha⟩ := den_lot.mp hden
    obtain ⟨kvs, h1, h2⟩ := hK
    have x03 : Exd p H H3 := (Exd.ex (e1.trans e2)).trans x3
    have hlen : kvs.length = ks.length := by
      have := congrArg List.length h2
      rw [List.length_map, List.length_map] at this
      exact this
    refine ⟨d, _, rfl, DPut.t (k := sk l) (x03 d _ ne h1) ?_ (Evl.sz_lt (by omega)), k l H3 kvs hs x03 f3 (x03 d _ ne h1) h2⟩
    rw [ha, List.map_map]
    rfl
theorem evP_tupleE {K : PySem.W.Frag} {σ : L2.St} {H : Hp} {te : TE} {γ : Type} {φ : γ → Prop} {ds : γ → List PyData} (h : EvP te σ H (fun v H' => ∃ c, φ c ∧ ND H (ds c) v H')) : EvP (tCB (rTupOf K) (tCons te tNil)) σ H (fun v H' => ∃ c, φ c ∧ Den H' v (.tuple (ds c))) := fun H1 e Q q =>
  h H1 e _ fun v H2 e2 hv => by
    obtain ⟨c, hc, p, ys, rfl, _, hp, hd⟩ := hv
    exact ⟨p, ys, rfl, .inl ⟨Evl.sq_of hp, fun t ht => q _ _ (e2.trans (Ex.new ht)) ⟨c, hc, .tup upd_same (hd.ex (Ex.new ht))⟩⟩⟩
def sp__law_dread : Sp := fun vs H Q _ => ∃ (p c : Addr) (u : V) (T : List Str) (n : Nat), vs = [V.ref p, u] ∧ Den H u (dLot T) ∧ T ≠ [] ∧ T.length ≤ 5 ∧ (∀ x ∈ T, nameOk x) ∧ T.Pairwise ltS ∧ FeedAt H p c n ∧ n ≤ 800000 ∧ ∀ v H' F, Exd p H H' → FeedAt H' p c (n + 100) → FearsOk T F → Den H' v (dFears F) → Q v H'
theorem lot_sub {T l : List Str} (h : l.Sublist T) (h5 : T.length ≤ 5) (nm : ∀ x ∈ T, nameOk x) (asc : T.Pairwise ltS) : LotOk T l := ⟨Nat.le_trans h.length_le h5, fun x hx => nm x (h.mem hx), asc.sublist h, fun x hx => h.mem hx⟩
theorem ord_of {F : List (List Str)} (nd : F.Nodup) (h : F.Pairwise fun a b => ltL b a = false) : ∀ (k : Nat) l m, F[k]? = some l → F[k + 1]? = some m → ltL l m = true := fun k l m hl hm => by
  obtain ⟨h1, h2⟩ := List.getElem?_eq_some_iff.mp hl
  obtain ⟨h3, h4⟩ := List.getElem?_eq_some_iff.mp hm
  have := List.pairwise_iff_getElem.mp h k (k + 1) h1 h3 (Nat.lt_succ_self k)
  rw [h2, h4] at this
  refine ltL_tot m l (fun z => ?_) this
  have e : F[k + 1] = F[k] := by rw [h4, h2, z]
  have := (List.getElem_inj nd).mp e
  omega
abbrev st__law_dread : Stmt := topS 56
theorem sc__law_dread : FnScope ["_law_feed_here", "_law_towers", "_law_kind", "_law_tower", "_law_known", "_law_often", "_law_lap"] ["_law_feed_here", "_law_towers"] (defScope st__law_dread) := ⟨rfl, rfl, rfl, by decide +kernel, rfl, by decide +kernel, by decide +kernel⟩

theorem ok__law_dread {f : Addr} {fd : FuncData} (D : Df K mg "_law_dread" st__law_dread ["_law_feed_here", "_law_towers"] f fd) (B : Bn mg) (hSK : SortKeys P w K) (c__law_draw : C8.Cal P w K mg base 1 "_law_draw" sp__law_draw []) (c__law_any : C8.Cal P w K mg base 2 "_law_any" sp__law_any []) : C8.Cal P w K mg base 3 "_law_dread" sp__law_dread [] := by
  refine D.cal (D.F.ok (k := 2) sc__law_dread (fun vs H Q E h => by obtain ⟨p, c, u, T, n, rfl, _⟩ := h; rfl) (fun cdv A outer s H vs Q E hr h => ?_))
  obtain ⟨p, c, u, T, n, rfl, hu, hT0, hT5, nm, asc, hf, hn, q⟩ := h
  have nt0 := hf.nt
  refine ⟨_, (pss_cons (ps_asg (C8.pe_c c__law_draw hr (by decide) (by rfl) (pa_cons (pv 0) (pa_cons pe_int pa_nil))) (pg_name (i := 2) sc__law_dread.nd rfl (Or.inl rfl))) (pss_cons (ps_if (pt_cmpR op_eq (pv 2) pe_int (nomark _)) (pss_one (ps_ret (pe_callTy call_tuple_of (by rfl) B.tuple (by decide +kernel) (pa_cons (pe_lc (own := [("_law_tower", 3)]) (g := (gName 3)) (tt := tYes) (te := (tTup (tCons (tVar 3) tNil))) rfl sc__law_dread.nd (pi_tup (pv 1)) (blkOk_by (N := ["_law_feed_here", "_law_towers", "_law_kind", "_law_tower", "_law_known", "_law_often", "_law_lap"]) (sc := defScope st__law_dread) (by decide +kernel)) (fun _ _ _ _ _ => (pg_name (i := 3) sc__law_dread.nd rfl (Or.inl rfl))) (fun _ _ _ _ _ => pts_nil) (fun _ _ _ _ _ => (pe_tup (pa_cons (pv 3) pa_nil)))) pa_nil)))) pss_nil) (pss_cons (ps_asg (pe_tup (pa_cons pe_dnewT (pa_cons (pe_op op_add pe_int (C8.pe_c c__law_draw hr (by decide) (by rfl) (pa_cons (pv 0) (pa_cons pe_int pa_nil)))) pa_nil))) (pg_tup (n := 2) rfl (pgs_cons (pg_name (i := 4) sc__law_dread.nd rfl (Or.inl rfl)) (pgs_cons (pg_name (i := 5) sc__law_dread.nd rfl (Or.inr rfl)) pgs_nil)))) (pss_cons (ps_for PassesOwn.never rfl (pi_range1 (by rfl) B.range (pa_cons (pe_ifExp (pt_cmpR op_gt (pv 2) pe_int (nomark _)) (C8.pe_c c__law_any hr (by decide) (by rfl) (pa_cons (pv 0) (pa_cons (pe_lst (pa_cons pe_int (pa_cons pe_int (pa_cons pe_int (pa_cons pe_int (pa_cons pe_int (pa_cons pe_int pa_nil))))))) pa_nil))) pe_int) pa_nil)) (pg_name (i := 6) sc__law_dread.nd rfl (Or.inl rfl)) (pss_one (ps_dput (hu_of hr) (pv 4) (pe_callTy call_tuple_of (by rfl) B.tuple (by decide +kernel) (pa_cons (pe_lc (own := [("_law_tower", 3)]) (g := (gName 3)) (tt := (tTest (tOp rEq (tCall sp__law_draw [] E0 (tCons (tVar 0) (tCons (tVar 5) tNil))) (tC (.int 0))))) (te := (tVar 3)) rfl sc__law_dread.nd (pi_tup (pv 1)) (blkOk_by (N := ["_law_feed_here", "_law_towers", "_law_kind", "_law_tower", "_law_known", "_law_often", "_law_lap"]) (sc := defScope st__law_dread) (by decide +kernel)) (fun _ _ _ _ _ => (pg_name (i := 3) sc__law_dread.nd rfl (Or.inl rfl))) (fun _ _ _ _ _ => (pts_one (pt_cmpR op_eq (C8.pe_c c__law_draw hr (by decide) (by rfl) (pa_cons (pv 0) (pa_cons (pv 5) pa_nil))) pe_int (nomark _)))) (fun _ _ _ _ _ => (pv 3))) pa_nil)) pe_bl rfl))) (pss_one (ps_ret (pe_callTy call_tuple_of (by rfl) B.tuple (by decide +kernel) (pa_cons (hSK _ _ _ _ _ _ _ rfl rfl rfl rfl hr.units (by rfl) B.sorted (pv 4) rfl rfl rfl) pa_nil)))))))), ?_⟩
  refine q_asgD (d_draw hf (by omega) (ev_var rfl) ev_c (by decide)) fun kv H1 x1 f1 hkv => ?_
  obtain ⟨kd, rfl, kd0, kd1⟩ := hkv
  have hu1 : Den H1 u (dLot T) := hu.tk (x1.tk nt0) _ _
  refine s_if (et_test (ev_eqI (ev_var rfl) ev_c)) (fun hb H2 e2 => ?_) fun hb H2 e2 => ?_
  · refine s_retP (evP_tupleOf (lcY (src_P_lot (EvP.var rfl (hu1.ex e2))) (by omega) (fun x => dLot [x]) fun x hx v H' e hv => ⟨_, evG_name, rfl, ?_⟩)) fun v H3 e3 hv => ?_
    · subst hv
      exact evP_tup (EvP.of1 (ev_var rfl) (.str x)) (show 1 ≤ 100000 by decide)
    · have e : T.map (fun x => dLot [x]) = (T.map fun x => [x]).map fun l => dLot l := by rw [List.map_map]; rfl
      rw [e] at hv
      refine q v H3 (T.map fun x => [x]) (x1.trans (Exd.ex (e2.trans e3))) ((f1.more (e2.trans e3)).le (by omega)) ⟨by simpa using hT0, by rw [List.length_map]; exact hT5, fun l hl => ?_, fun k l m hl hm => ?_⟩ hv
      · obtain ⟨x, hx, rfl⟩ := List.mem_map.mp hl
        exact lot_sub (List.singleton_sublist.mpr hx) hT5 nm asc
      · rw [List.getElem?_map] at hl hm
        cases h1 : T[k]? with
        | none => rw [h1] at hl; cases hl
        | some x =>
          cases h2 : T[k + 1]? with
          | none => rw [h2] at hm; cases hm
          | some y =>
            rw [h1] at hl
            rw [h2] at hm
            cases hl
            cases hm
            have lt := asc_get asc (Nat.lt_succ_self k) h1 h2
            show (if x = y then false else decide (ltS x y)) = true
            rw [if_neg (fun z => by rw [z] at lt; exact ltS_irr _ lt)]
            exact decide_eq_true lt
  have hu2 := hu1.ex e2
  have f2 := f1.more e2
  have x2 : Exd p H H2 := x1.trans (Exd.ex e2)
  unfold tNext
  dsimp only
  refine q_asgTup2D (K := K) (p := p) (c := c) (m := n + 1 + 1) (P1 := fun v H' => ∃ d, v = .ref d ∧ H2 d = none ∧ H' d = some (.dT [])) (fun H3 e3 Q' q' => fun d hd => q' _ _ (Ex.new hd) ⟨d, rfl, fresh_back e3 hd, upd_same⟩) (fun H3 e3 => d_opR (r := rI0 fun i j => .int (i + j)) (j := 2) (g := fun i j => i + j) ev_c (fun H' e' => d_draw (b := 2) (f2.more (e3.trans e')) (by omega) (ev_var rfl) ev_c (by decide)) fun i H' => rv_I0) fun x y H3 H4 H5 e3 hx x4 f4 hy e5 => ?_
  obtain ⟨d, rfl, d0, d1⟩ := hx
  obtain ⟨of, rfl, i0, ⟨hi0, hi1⟩, rfl⟩ := hy
  have ndp : d ≠ p := fun z => by
    obtain ⟨ns, s, r, t, k1, _⟩ := f2.ex
    rw [z, k1] at d0; cases d0
  have ndc : d ≠ c := fun z => by
    obtain ⟨ns, s, r, t, _, k1, _⟩ := f2.ex
    rw [z, k1] at d0; cases d0
  have x5 : Exd p H2 H5 := ((Exd.ex e3).trans x4).trans (Exd.ex e5)
  have f5 := f4.more e5
  have k5 : KnownAt H5 d [] := ⟨[], e5 d _ (x4 d _ ndp d1), rfl⟩
  have hu5 : Den H5 u (dLot T) := hu2.tk (x5.tk f2.nt) _ _
  have dH : H d = none := by
    cases hh : H d with
    | none => rfl
    | some o => have := x2 d o ndp hh; rw [d0] at this; cases this
  refine s_forRD (D := { nx := _, rt := Q }) (p := p) (c := c) (m := n + 3) (φ := fun r => 1 ≤ r ∧ r ≤ 5) (d_ifI (et_test (ev_gt (ev_var rfl) ev_c)) (fun H' e' _ => ?_) fun H' e' _ => d_of ((f5.more e').le (Nat.le_succ _)) (Nat.le_refl _) (EvP.of ev_c fun _ _ => ⟨1, rfl, by decide, by decide⟩)) fun r H6 x6 f6 hr => ?_
  · intro Q' q'
    refine d_any (ns := [1, 1, 2, 2, 3, 5]) (f5.more e') (by omega) (ev_var rfl) (el_lst (vs := [.int 1, .int 1, .int 2, .int 2, .int 3, .int 5]) (ea_cons ev_c (ea_cons ev_c (ea_cons ev_c (ea_cons ev_c (ea_cons ev_c (ea_cons ev_c ea_nil)))))) (show 6 ≤ 100000 by decide)) (by decide) (by decide) Q' fun v H'' h1 h2 h3 => q' v H'' h1 h2 ?_
    obtain ⟨r, hr, hm⟩ := h3
    refine ⟨r, hr, ?_⟩
    simp at hm
    omega
  obtain ⟨N, rfl⟩ : ∃ N : Nat, r = (N : Int) := ⟨r.toNat, by omega⟩
  have hu6 : Den H6 u (dLot T) := hu5.tk (x6.tk f5.nt) _ _
  have x26 := x5.trans x6
  have k6 : KnownAt H6 d [] := by
    obtain ⟨kvs, h1, h2⟩ := k5
    exact ⟨kvs, x6 d _ ndp h1, h2⟩
  refine s_forT (srcT_range (n := N) (ea_cons ev_c ea_nil) (by omega)) (fun Hs i σ' H' => Tk Hs H' ∧ (∃ ks : List (List Str), Exd p H H' ∧ FeedAt H' p c (n + 3 + 5 * i) ∧ KnownAt H' d ks ∧ ks.Nodup ∧ (∀ l ∈ ks, l.Sublist T) ∧ ks.length ≤ i ∧ (0 < i → ks ≠ [])) ∧ ∃ a b, σ' = [some (.ref p), some u, some (.int kd), a, some (.ref d), some (.int (2 + i0)), b]) (fun H7 e7 => ⟨Tk.refl _, ⟨[], (x2.trans x26).trans (Exd.ex e7), f6.more e7, k6.ex e7, .nil, (fun l h => nomatch h), Nat.le_refl _, fun h => absurd h (Nat.lt_irrefl 0)⟩, _, _, rfl⟩) (fun _ _ _ _ _ p => p.1) ?_ ?_
  · rintro Hs es i k hik x σ' H7 H8 ⟨r1, ⟨ks, kx, kf, kk, knd, ksub, klen, kne⟩, a, b, rfl⟩ e8 rfl
    have hi : i < N := by
      have := (List.getElem?_eq_some_iff.mp hik).1
      rw [List.length_range] at this
      exact this
    refine evG_name H8 (Ex.refl _) _ fun H9 e9 => ?_
    have e79 := e8.trans e9
    have f9 := kf.more e79
    have x9 := kx.trans (Exd.ex e79)
    have hu9 : Den H9 u (dLot T) := hu.tk (x9.tk nt0) _ _
    refine s_dputD (p := p) (c := c) (m := n + 3 + 5 * i + T.length) (T := T) (v := .bl true) (ks := ks) (d := d) ev_c (fun H' => ev_var rfl) (fun H' e' => d_tupOf (lcD (srcT_lot (EvP.var rfl (hu9.ex e'))) (f9.more e') rfl (fun v => rfl) (fun v => rfl) (by omega) fun x m' H'' h1 h2 h3 => fun Q' q' => d_draw h2 (by omega) (ev_var rfl) (ev_var rfl) (by omega) Q' fun v Hq g1 g2 g3 => q' v Hq g1 g2 (by
      obtain ⟨r, hr, _⟩ := g3
      exact ⟨r, hr, trivial⟩))) (kk.ex e79) ndp (by omega) fun l H10 kvs hsl x10 f10 hd hkeys => ?_
    have tkd : Tk H10 (upd H10 d (.dT (putK kvs (sk l) (.bl true)))) := Tk.upd fun xs z => by rw [hd] at z; cases z
    refine ⟨((r1.trans (Tk.ex e79)).trans (x10.tk f9.nt)).trans tkd, ⟨addK ks l, fun a o na ho => ?_, (f10.upd ndp ndc).le (by omega), ⟨_, upd_same, known_put hkeys l _⟩, addK_nd knd, fun l' hl' => ?_, Nat.le_trans addK_len (by omega), fun _ z => ?_⟩, _, _, rfl⟩
    · rw [upd_ne (ne_of_none ho dH)]
      exact x10 a o na (x9 a o na ho)
    · rcases mem_addK.mp hl' with h | h
      · exact ksub l' h
      · rw [h]; exact hsl
    · have : l ∈ addK ks l := mem_addK.mpr (.inr rfl)
      rw [z] at this
      cases this
  · rintro Hs es σ' H7 ⟨r1, ⟨ks, kx, kf, kk, knd, ksub, klen, kne⟩, a, b, rfl⟩
    rw [List.length_range] at kf klen kne
    refine s_retP (D := { nx := fun _ H' => Q .non H', rt := Q }) (evP_tupleE (γ := List (List Str)) (φ := fun ks' => ks'.Perm ks ∧ ks'.Pairwise fun a b => ltL b a = false) (ds := fun ks' => ks'.map dLot) ((evP_sortKeys (ev_var rfl) kk (by omega)).imp fun v H8 _ h => by
      obtain ⟨ks', h1, h2, h3⟩ := h
      exact ⟨ks', ⟨h1, h2⟩, h3⟩)) fun v H8 e8 hv => ?_
    obtain ⟨F, ⟨pm, so⟩, hv⟩ := hv
    have ndF := pm.nodup_iff.mpr knd
    exact q v H8 F (kx.trans (Exd.ex e8)) ((kf.more e8).le (by omega)) ⟨fun z => kne (by omega) (by rw [z] at pm; exact List.nil_perm.mp pm), by rw [pm.length_eq]; omega, fun l hl => lot_sub (ksub l (pm.mem_iff.mp hl)) hT5 nm asc, ord_of ndF so⟩ hv
end
end Nh

namespace Nh
open PySem PySem.Spec PyProof.Rows L2 Evl
section
variable {P : Program} {w : World} {K : PySem.W.Frag} {mg : Str → Option Value} {base : Heap}

/-- the parts of a lot, in the law's own order -/
def subs (l : List Str) : List (List Str) := l.foldl (fun acc x => acc ++ acc.map (· ++ [x])) [[]]
theorem subs_snoc (l : List Str) (x : Str) : subs (l ++ [x]) = subs l ++ (subs l).map (· ++ [x]) := by
  unfold subs
  rw [List.foldl_append]
  rfl
theorem subs_take {l : List Str} {i : Nat} {x : Str} (h : l[i]? = some x) : subs (l.take (i + 1)) = subs (l.take i) ++ (subs (l.take i)).map (· ++ [x]) := by
  rw [List.take_add_one, h]
  exact subs_snoc _ _
theorem subs_len (l : List Str) : (subs l).length = 2 ^ l.length := by
  induction h : l.length generalizing l with
  | zero => rw [List.length_eq_zero_iff.mp h]; rfl
  | succ n ih =>
    obtain ⟨r, x, rfl⟩ : ∃ r x, l = r ++ [x] := ⟨l.dropLast, l.getLast (List.ne_nil_of_length_pos (by omega)), (List.dropLast_concat_getLast _).symm⟩
    rw [List.length_append] at h
    have h : r.length = n := by simpa using h
    rw [subs_snoc, List.length_append, List.length_map, ih r h, Nat.pow_succ]
    omega
theorem mem_subs {l k : List Str} : k ∈ subs l ↔ k.Sublist l := by
  induction h : l.length generalizing l k with
  | zero =>
    have := List.length_eq_zero_iff.mp h
    subst this
    show k ∈ [[]] ↔ _
    rw [List.mem_singleton]
    exact ⟨fun e => by rw [e]; exact List.nil_sublist _, fun s => List.sublist_nil.mp s⟩
  | succ n ih =>
    obtain ⟨r, x, rfl⟩ : ∃ r x, l = r ++ [x] := ⟨l.dropLast, l.getLast (List.ne_nil_of_length_pos (by omega)), (List.dropLast_concat_getLast _).symm⟩
    rw [List.length_append] at h
    have h : r.length = n := by simpa using h
    rw [subs_snoc, List.mem_append, ih h]
    constructor
    · rintro (h1 | h1)
      · exact h1.trans (List.sublist_append_left _ _)
      · obtain ⟨k', hk, rfl⟩ := List.mem_map.mp h1
        exact ((ih h).mp hk).append (List.Sublist.refl _)
    · intro hs
      obtain ⟨k1, k2, rfl, h1, h2⟩ := List.sublist_append_iff.mp hs
      cases k2 with
      | nil => rw [List.append_nil]; exact .inl h1
      | cons y k2 =>
        have hy : y :: k2 = [x] := by
          have := h2.length_le
          rw [List.length_cons] at this
          have t1 : [x].length = 1 := rfl
          have e : k2 = [] := List.length_eq_zero_iff.mp (by omega)
          subst e
          have := h2.mem (List.mem_cons_self)
          rw [List.mem_singleton.mp this]
        rw [hy]
        exact .inr (List.mem_map.mpr ⟨k1, (ih h).mpr h1, rfl⟩)
theorem asc_filter : ∀ {T l : List Str}, T.Pairwise ltS → l.Pairwise ltS → (∀ x ∈ l, x ∈ T) → T.filter (fun t => decide (t ∈ l)) = l
  | [], l, _, _, h => by
    cases l with
    | nil => rfl
    | cons x l => exact absurd (h x List.mem_cons_self) (by simp)
  | t :: T, l, hT, hl, h => by
    have hT1 := List.pairwise_cons.mp hT
    rw [List.filter_cons]
    by_cases ht : t ∈ l
    · rw [if_pos (decide_eq_true ht)]
      cases l with
      | nil => cases ht
      | cons x l' =>
        have hl1 := List.pairwise_cons.mp hl
        have ex : x = t := by
          rcases List.mem_cons.mp (h x List.mem_cons_self) with e | e
          · exact e
          · rcases List.mem_cons.mp ht with e2 | e2
            · exact e2.symm
            · exact absurd (hT1.1 x e) (ltS_asy (hl1.1 t e2))
        subst ex
        congr 1
        have nx : x ∉ T := fun z => ltS_irr x (hT1.1 x z)
        have nl : x ∉ l' := fun z => ltS_irr x (hl1.1 x z)
        have e1 : T.filter (fun t => decide (t ∈ x :: l')) = T.filter (fun t => decide (t ∈ l')) := List.filter_congr fun y hy => by
          have : y ≠ x := fun z => nx (by rw [← z]; exact hy)
          simp [this]
        rw [e1]
        refine asc_filter hT1.2 hl1.2 fun y hy => ?_
        rcases List.mem_cons.mp (h y (List.mem_cons_of_mem _ hy)) with e | e
        · rw [e] at hy; exact absurd hy nl
        · exact e
    · rw [if_neg (by simp [ht])]
      refine asc_filter hT1.2 hl fun y hy => ?_
      rcases List.mem_cons.mp (h y hy) with e | e
      · rw [e] at hy; exact absurd hy ht
      · exact e
theorem lotSub {T l : List Str} (hT : T.Pairwise ltS) (h : LotOk T l) : l.Sublist T := by
  have := asc_filter hT h.asc h.mem
  rw [← this]
  exact List.filter_sublist
theorem fears_in {T : List Str} {F : List (List Str)} (hT : T.Pairwise ltS) (h : FearsOk T F) : NhM.FearsIn T F := fun a ha => (asc_filter hT (h.lots a ha).asc (h.lots a ha).mem).symm
/-- at most 32 parts -/
theorem few_subs {T : List Str} (h5 : T.length ≤ 5) {ks : List (List Str)} (nd : ks.Nodup) (h : ∀ k ∈ ks, k.Sublist T) : ks.length ≤ 32 := by
  have := NhM.nodup_le ks (subs T) nd fun k hk => mem_subs.mpr (h k hk)
  rw [subs_len] at this
  have := Nat.pow_le_pow_right (n := 2) (by decide) h5
  omega
/-- xs + ys, lists of data -/
theorem evP_cat {σ : L2.St} {H H0 : Hp} {ta tb : TE} {ds es : List PyData} {l : Addr} {xs : List V} (h : Ev ta σ H (.ref l)) (hl : H l = some (.lst xs)) (hd : DenAll H xs ds) (h' : EvP tb σ H (ND H0 es)) (hn : ds.length + es.length ≤ 100000) : EvP (tOp rCat ta tb) σ H (ND H (ds ++ es)) := fun H1 e Q q =>
  h H1 e _ fun H2 e2 => h' H2 (e.trans e2) _ fun v H3 e3 hv => by
    obtain ⟨b, ys, rfl, _, hb, hy⟩ := hv
    have e03 := (e.trans e2).trans e3
    refine ⟨l, b, xs, ys, rfl, rfl, e03 l _ hl, hb, Evl.sz_of (by rw [hd.len, hy.len]; exact hn), fun p hp => q _ _ ((e2.trans e3).trans (Ex.new hp)) ⟨p, _, rfl, fresh_back e03 hp, upd_same, ?_⟩⟩
    exact ((hd.ex e03).append hy).ex (Ex.new hp)
/-- t + (x,) of texts -/
theorem evP_catT {K : PySem.W.Frag} {σ : L2.St} {H : Hp} {ta tb : TE} {a b : List Str} (h : EvP ta σ H (Da (dLot a))) (h' : EvP tb σ H (Da (dLot b))) (hn : a.length + b.length ≤ 100000) : EvP (tOp (rCatA K) ta tb) σ H (Da (dLot (a ++ b))) := fun H1 e Q q =>
  h H1 e _ fun v H2 e2 pv => h' H2 (e.trans e2) _ fun w H3 e3 pw => by
    obtain ⟨x, rfl, hx⟩ := den_lot.mp pv
    obtain ⟨y, rfl, hy⟩ := den_lot.mp pw
    have e23 := e2.trans e3
    refine ⟨x, y, _, _, rfl, rfl, Evl.st_of (e3 x _ hx), Evl.st_of hy, Evl.sz_of (by rw [List.length_map, List.length_map]; exact hn), fun z => ?_, fun _ z => ?_, fun _ _ p hp => ?_⟩
    · have : a = [] := List.map_eq_nil_iff.mp z
      subst this
      exact q _ H3 e23 (den_lot.mpr ⟨y, rfl, hy⟩)
    · have : b = [] := List.map_eq_nil_iff.mp z
      subst this
      rw [List.append_nil] at q
      exact q _ H3 e23 (den_lot.mpr ⟨x, rfl, e3 x _ hx⟩)
    · refine q _ _ (e23.trans (Ex.new hp)) (den_lot.mpr ⟨p, rfl, ?_⟩)
      rw [upd_same, List.map_append]
/-- a dict of lots that grows: H the base ahead of it -/
structure Kn (H H' : Hp) (d : Addr) (ks : List (List Str)) : Prop where
  ex : Ex H H'
  k : KnownAt H' d ks
theorem Kn.more {H H1 H2 : Hp} {d : Addr} {ks : List (List Str)} (h : Kn H H1 d ks) (e : Ex H1 H2) : Kn H H2 d ks := ⟨h.ex.trans e, h.k.ex e⟩
theorem KnownAt.dT {H : Hp} {d : Addr} {ks : List (List Str)} (h : KnownAt H d ks) : ∃ kvs : List (List Key × V), H d = some (.dT kvs) := by
  obtain ⟨kvs, h1, _⟩ := h
  exact ⟨kvs, h1⟩
theorem addK_sub {ks : List (List Str)} {k : List Str} {p : List Str → Prop} (h : ∀ x ∈ ks, p x) (hk : p k) : ∀ x ∈ addK ks k, p x := fun x hx => by
  rcases mem_addK.mp hx with h1 | h1
  · exact h x h1
  · rw [h1]; exact hk
abbrev st__law_lots : Stmt := topS 49
theorem sc__law_lots : FnScope ["_law_dread_here", "_law_known", "_law_lot", "_law_some", "_law_tower", "_law_part"] ["_law_dread_here"] (defScope st__law_lots) := ⟨rfl, rfl, rfl, by decide +kernel, rfl, by decide +kernel, by decide +kernel⟩

def sp__law_lots : Sp := spD (fun (i : List Str × List (List Str)) => [dFears i.2]) (fun i => FearsOk i.1 i.2 ∧ i.1.length ≤ 5 ∧ i.1.Pairwise ltS) (fun i H v H' => ∃ L, NhM.LotsOk i.2 L ∧ (∀ k ∈ L, k.Sublist i.1) ∧ L.length ≤ 32 ∧ ND H (L.map dLot) v H')
theorem ok__law_lots {f : Addr} {fd : FuncData} (D : Df K mg "_law_lots" st__law_lots ["_law_dread_here"] f fd) (B : Bn mg) (hSK : SortKeys P w K) : C8.Cal P w K mg base 1 "_law_lots" sp__law_lots [] := by
  refine D.cal (D.F.ok (k := 0) sc__law_lots (spD_len 1 fun _ => rfl) (fun cdv A outer s H vs Q E hr h => ?_))
  obtain ⟨⟨T, F⟩, hd, ⟨ok, h5, asc⟩, q⟩ := h
  obtain ⟨u, rfl, hu⟩ := hd.one
  have hu : Den H u (.tuple (F.map fun l => dLot l)) := hu
  have ok : FearsOk T F := ok
  have h5 : T.length ≤ 5 := h5
  have asc : T.Pairwise ltS := asc
  have q : ∀ (v : V) (H' : Hp), Ex H H' → (∃ L, NhM.LotsOk F L ∧ (∀ k ∈ L, k.Sublist T) ∧ L.length ≤ 32 ∧ ND H (L.map dLot) v H') → Q v H' := q
  have hF := ok.len
  refine ⟨_, (pss_cons (ps_asg pe_dnewT (pg_name (i := 1) sc__law_lots.nd rfl (Or.inl rfl))) (pss_cons (ps_for PassesOwn.never rfl (pi_tup (pv 0)) (pg_name (i := 2) sc__law_lots.nd rfl (Or.inl rfl)) (pss_cons (ps_asg (pe_lst (pa_cons (pe_tup pa_nil) pa_nil)) (pg_name (i := 3) sc__law_lots.nd rfl (Or.inl rfl))) (pss_cons (ps_for PassesOwn.never rfl (pi_tup (pv 2)) (pg_name (i := 4) sc__law_lots.nd rfl (Or.inr rfl)) (pss_one (ps_asg (pe_op op_cat (pv 3) (pe_lc (own := [("_law_part", 5)]) (g := (gName 5)) (tt := tYes) (te := (tOp (rCatA K) (tVar 5) (tTup (tCons (tVar 4) tNil)))) rfl sc__law_lots.nd (pi_list (pv 3)) (blkOk_by (N := ["_law_dread_here", "_law_known", "_law_lot", "_law_some", "_law_tower", "_law_part"]) (sc := defScope st__law_lots) (by decide +kernel)) (fun _ _ _ _ _ => (pg_name (i := 5) sc__law_lots.nd rfl (Or.inl rfl))) (fun _ _ _ _ _ => pts_nil) (fun _ _ _ _ _ => (pe_op op_catA (pv 5) (pe_tup (pa_cons (pv 4) pa_nil)))))) (pg_name (i := 3) sc__law_lots.nd rfl (Or.inl rfl))))) (pss_one (ps_for PassesOwn.never rfl (pi_list (pv 3)) (pg_name (i := 5) sc__law_lots.nd rfl (Or.inl rfl)) (pss_one (ps_dput (hu_of hr) (pv 1) (pv 5) pe_bl rfl))))))) (pss_one (ps_ret (hSK _ _ _ _ _ _ _ rfl rfl rfl rfl hr.units (by rfl) B.sorted (pv 1) rfl rfl rfl))))), ?_⟩
  refine q_asgP (P := fun v H' => ∃ d, v = .ref d ∧ H d = none ∧ H' d = some (.dT [])) (fun H3 e3 Q' q' => fun d hd => q' _ _ (Ex.new hd) ⟨d, rfl, fresh_back e3 hd, upd_same⟩) fun dv H1 e1 hdv => ?_
  obtain ⟨d, rfl, d0, d1⟩ := hdv
  refine s_forT (D := { nx := _, rt := Q }) (srcT_P (EvP.var rfl (hu.ex e1))) (fun Hs i σ' H' => Tk Hs H' ∧ (∃ ks : List (List Str), Kn H H' d ks ∧ ks.Nodup ∧ (∀ k, k ∈ ks ↔ ∃ a ∈ F.take i, k.Sublist a)) ∧ ∃ a b c e, σ' = [some u, some (.ref d), a, b, c, e]) (fun H2 e2 => ⟨Tk.refl _, ⟨[], ⟨e1.trans e2, ⟨[], e2 d _ d1, rfl⟩⟩, .nil, fun k => by simp⟩, _, _, _, _, rfl⟩) (fun _ _ _ _ _ p => p.1) ?_ ?_
  · rintro Hs es i dl hil xl σ' H0 H' ⟨r1, ⟨ks, kn, knd, kmem⟩, a, b, c, e, rfl⟩ e0 hl
    obtain ⟨l, hlF, rfl⟩ : ∃ l, F[i]? = some l ∧ dl = dLot l := by
      rw [List.getElem?_map] at hil
      cases h : F[i]? with
      | none => rw [h] at hil; cases hil
      | some e => rw [h] at hil; cases hil; exact ⟨e, rfl, rfl⟩
    have hlm := List.mem_of_getElem? hlF
    have hls : l.Sublist T := lotSub asc (ok.lots l hlm)
    have hl5 := (ok.lots l hlm).len
    refine evG_name H' (Ex.refl _) _ fun H4 e4 => ?_
    have kn4 := (kn.more e0).more e4
    have hl4 : Den H4 xl (dLot l) := hl.ex e4
    have tk4 := (r1.trans (Tk.ex e0)).trans (Tk.ex e4)
    refine q_asgP (evP_lst (ds := [dLot []]) (ead1 (evP_tup ead_nil (by decide))) (show 1 ≤ 100000 by decide)) fun sv H5 e5 hsv => ?_
    have kn5 := kn4.more e5
    refine s_forT (D := { nx := _, rt := Q }) (srcT_lot (EvP.var rfl (hl4.ex e5))) (fun Hs j σ' H' => Tk Hs H' ∧ Ex H5 H' ∧ ∃ sv b c, ND H4 ((subs (l.take j)).map dLot) sv H' ∧ σ' = [some u, some (.ref d), some xl, some sv, b, c]) (fun H6 e6 => ⟨Tk.refl _, e6, sv, _, _, ?_, rfl⟩) (fun _ _ _ _ _ p => p.1) ?_ ?_
    · obtain ⟨p, ys, rfl, h1, h2, h3⟩ := hsv
      exact ⟨p, ys, rfl, h1, e6 p _ h2, h3.ex e6⟩
    · rintro Hs1 es1 j x hj xv σ' H6 H7 ⟨t1, t2, sv, b, c, hnd, rfl⟩ e7 rfl
      refine evG_name H7 (Ex.refl _) _ fun H8 e8 => ?_
      have e68 := e7.trans e8
      obtain ⟨sp, ys, rfl, hs0, hs1, hsd⟩ := ND.mono e68 hnd
      have hj5 : j < l.length := (List.getElem?_eq_some_iff.mp hj).1
      have hsl : (subs (l.take j)).length ≤ 32 := by
        rw [subs_len]
        have : (l.take j).length ≤ 5 := by rw [List.length_take]; omega
        exact Nat.pow_le_pow_right (n := 2) (by decide) this
      refine s_asgP (i := 3) (evP_cat (H0 := H8) (es := (subs (l.take j)).map fun k => dLot (k ++ [x])) (ev_var rfl) hs1 hsd (lcY ((src_list (ev_var rfl) hs1 hsd).map' rfl) (by omega) (fun k => dLot (k ++ [x])) fun k hk v H9 e9 hv => ⟨_, evG_name, rfl, evP_catT (EvP.var rfl hv) (evP_tup (EvP.of1 (ev_var rfl) (.str x)) (show 1 ≤ 100000 by decide)) ?_⟩) (by rw [List.length_map, List.length_map]; omega)) fun sv' H9 e9 hsv' => ?_
      · have := (mem_subs.mp hk).length_le
        rw [List.length_take] at this
        have t1 : [x].length = 1 := rfl
        omega
      · refine ⟨t1.trans (Tk.ex (e68.trans e9)), (t2.trans e68).trans e9, sv', _, _, ?_, rfl⟩
        obtain ⟨p, zs, rfl, g1, g2, g3⟩ := hsv'
        refine ⟨p, zs, rfl, fresh_back (e5.trans (t2.trans e68)) g1, g2, ?_⟩
        rw [subs_take hj, List.map_append, List.map_map]
        exact g3
    · rintro Hs1 es1 σ' H6 ⟨t1, t2, sv, b, c, hnd, rfl⟩
      rw [List.take_length] at hnd
      have kn6 := kn5.more t2
      obtain ⟨sp, ys, rfl, hs0, hs1, hsd⟩ := hnd
      obtain ⟨kv6, hd6⟩ := kn6.k.dT
      have nsd : sp ≠ d := fun z => by rw [z, hd6] at hs1; cases hs1
      have hsl : (subs l).length ≤ 32 := by
        rw [subs_len]
        exact Nat.pow_le_pow_right (n := 2) (by decide) hl5
      refine s_forR (srcD_list (p := d) (ev_var rfl) hs1 hsd nsd (fun xs z => by rw [hd6] at z; cases z) hd6) (fun Hs j σ' H' => Exd d Hs H' ∧ (∃ ks' : List (List Str), Kn H H' d ks' ∧ ks'.Nodup ∧ ∀ k, k ∈ ks' ↔ k ∈ ks ∨ k ∈ (subs l).take j) ∧ ∃ c, σ' = [some u, some (.ref d), some xl, some (.ref sp), b, c]) (fun H7 e7 => ⟨Exd.refl _ _, ⟨ks, kn6.more e7, knd, fun k => by simp⟩, _, rfl⟩) (fun _ _ _ _ _ p => p.1) ?_ ?_
      · rintro Hs2 es2 j dk hj xk σ' H7 H8 ⟨v1, ⟨ks', kn7, knd7, kmem7⟩, c, rfl⟩ e8 hk
        obtain ⟨kk, hkk, rfl⟩ : ∃ kk, (subs l)[j]? = some kk ∧ dk = dLot kk := by
          rw [List.getElem?_map] at hj
          cases h : (subs l)[j]? with
          | none => rw [h] at hj; cases hj
          | some e => rw [h] at hj; cases hj; exact ⟨e, rfl, rfl⟩
        refine evG_name H8 (Ex.refl _) _ fun H9 e9 => ?_
        have kn9 := (kn7.more e8).more e9
        have klen : ks'.length ≤ 32 := few_subs h5 knd7 fun k hk => by
          rcases (kmem7 k).mp hk with h | h
          · obtain ⟨a, ha, hs⟩ := (kmem k).mp h
            exact hs.trans (lotSub asc (ok.lots a (List.mem_of_mem_take ha)))
          · exact (mem_subs.mp (List.mem_of_mem_take h)).trans hls
        refine s_dputT (P := fun k => k = kk) (v := .bl true) ev_c (fun H' _ => ev_var rfl) (EvP.of (ev_var rfl) fun H' e' => ⟨kk, rfl, (hk.ex e9).ex e'⟩) kn9.k (by omega) fun k H10 kvs hkeq e10 hd10 hkeys => ?_
        subst hkeq
        refine ⟨(v1.trans (Exd.ex ((e8.trans e9).trans e10))).trans (Exd.upd _), ⟨addK ks' k, ⟨(kn9.ex.trans e10).mut d0, _, upd_same, known_put hkeys k _⟩, addK_nd knd7, fun x => ?_⟩, _, rfl⟩
        rw [mem_addK, kmem7, List.take_add_one, hkk]
        simp [or_assoc]
      · rintro Hs2 es2 σ' H7 ⟨v1, ⟨ks', kn7, knd7, kmem7⟩, c, rfl⟩
        rw [List.length_map, List.take_length] at kmem7
        have tk7 : Tk Hs2 H7 := v1.tk fun xs z => by rw [es2 d _ hd6] at z; cases z
        refine ⟨(((tk4.trans (Tk.ex e5)).trans (Tk.ex t2)).trans (Tk.ex es2)).trans tk7, ⟨ks', kn7, knd7, fun k => ?_⟩, _, _, _, _, rfl⟩
        rw [kmem7, kmem, mem_subs, List.take_add_one, hlF]
        constructor
        · rintro (⟨a, ha, hs⟩ | hs)
          · exact ⟨a, List.mem_append_left _ ha, hs⟩
          · exact ⟨l, List.mem_append_right _ (by simp), hs⟩
        · rintro ⟨a, ha, hs⟩
          rcases List.mem_append.mp ha with ha | ha
          · exact .inl ⟨a, ha, hs⟩
          · have : a = l := by simpa using ha
            rw [this] at hs
            exact .inr hs
  · rintro Hs es σ' H' ⟨r1, ⟨ks, kn, knd, kmem⟩, a, b, c, e, rfl⟩
    rw [List.length_map, List.take_length] at kmem
    have ksub : ∀ k ∈ ks, k.Sublist T := fun k hk => by
      obtain ⟨a, ha, hs⟩ := (kmem k).mp hk
      exact hs.trans (lotSub asc (ok.lots a ha))
    have klen := few_subs h5 knd ksub
    refine s_retP (D := { nx := fun _ H' => Q .non H', rt := Q }) (evP_sortKeys (ev_var rfl) kn.k (by omega)) fun v H5 e5 hv => ?_
    obtain ⟨L, pm, _, hv⟩ := hv
    refine q v H5 (kn.ex.trans e5) ⟨L, fun k => by rw [pm.mem_iff]; exact kmem k, fun k hk => ksub k (pm.mem_iff.mp hk), by rw [pm.length_eq]; exact klen, ?_⟩
    obtain ⟨p, ys, rfl, h1, h2, h3⟩ := hv
    exact ⟨p, ys, rfl, fresh_back kn.ex h1, h2, h3⟩
end
end Nh

namespace Nh
open PySem PySem.Spec PyProof.Rows L2 Evl
section
variable {P : Program} {w : World} {K : PySem.W.Frag} {mg : Str → Option Value} {base : Heap}

theorem evP_ixL {K : PySem.W.Frag} {σ : L2.St} {H : Hp} {te ti : TE} {l : Addr} {xs : List V} {ds : List PyData} {d : PyData} {i : Nat} (h : Ev te σ H (.ref l)) (hl : H l = some (.lst xs)) (hd : DenAll H xs ds) (hi : Ev ti σ H (.int (i : Int))) (hg : ds[i]? = some d) : EvP (tOp (rIxL K) te ti) σ H (Da d) := by
  obtain ⟨v, hv, hdv⟩ := hd.at hg
  exact EvP.den (ev_op h hi (rv_ixL (Evl.sq_of hl) (atI_nat hv))) hdv
theorem less_comm {α : Type} [DecidableEq α] (l a b : List α) : NhM.less (NhM.less l a) b = NhM.less (NhM.less l b) a := by
  unfold NhM.less
  rw [List.filter_filter, List.filter_filter]
  congr 1
  funext x
  exact Bool.and_comm _ _
theorem less_subl (l t : List Str) : (NhM.less l t).Sublist l := List.filter_sublist
abbrev st__law_rests : Stmt := topS 50
theorem sc__law_rests : FnScope ["_law_ground_here", "_law_lots_here", "_law_known", "_law_k", "_law_some", "_law_tower", "_law_lot"] ["_law_ground_here", "_law_lots_here"] (defScope st__law_rests) := ⟨rfl, rfl, rfl, by decide +kernel, rfl, by decide +kernel, by decide +kernel⟩

def sp__law_rests : Sp := fun vs H Q _ => ∃ (u : V) (a : Addr) (T : List Str) (E : List Wr) (L : List (List Str)) (xs : List V), vs = [u, .ref a] ∧ Den H u (dTown T E) ∧ H a = some (.lst xs) ∧ DenAll H xs (L.map dLot) ∧ L.length ≤ 32 ∧ T.length ≤ 5 ∧ (∀ v H', Ex H H' → (∃ Rs, NhM.RestsOk T L Rs ∧ (∀ k ∈ Rs, k.Sublist T) ∧ Rs.length ≤ 32 ∧ ND H (Rs.map dLot) v H') → Q v H')
theorem ok__law_rests {f : Addr} {fd : FuncData} (D : Df K mg "_law_rests" st__law_rests ["_law_ground_here", "_law_lots_here"] f fd) (B : Bn mg) (hSK : SortKeys P w K) : C8.Cal P w K mg base 1 "_law_rests" sp__law_rests [] := by
  refine D.cal (D.F.ok (k := 0) sc__law_rests (fun vs H Q E h => by obtain ⟨u, a, T, E, L, xs, rfl, _⟩ := h; rfl) (fun cdv A outer s H vs Q E hr h => ?_))
  obtain ⟨u, a, T, E', L, xs, rfl, hu, ha, hxs, hL, h5, q⟩ := h
  have hu : Den H u (.tuple [dLot T, .tuple (E'.map dWire)]) := hu
  refine ⟨_, (pss_cons (ps_asg pe_dnewT (pg_name (i := 2) sc__law_rests.nd rfl (Or.inl rfl))) (pss_cons (ps_for PassesOwn.never rfl (pi_range1 (by rfl) B.range (pa_cons (pe_callB call_len_seq (by rfl) B.len boot_len (pa_cons (pv 1) pa_nil)) pa_nil)) (pg_name (i := 3) sc__law_rests.nd rfl (Or.inr rfl)) (pss_cons (ps_setLc (i := 4) (own := [("_law_tower", 5)]) (g := (gName 5)) (tt := (tTest (tOp (rIn K true) (tVar 5) (tOp (rIxL K) (tVar 1) (tVar 3))))) (te := (tVar 5)) rfl sc__law_rests.nd rfl rfl (sw_true rfl rfl rfl (by decide +kernel)) (pi_tup (pe_ix ix_tup (pv 0) pe_int (fun _ _ => rfl))) (blkOk_by (N := ["_law_ground_here", "_law_lots_here", "_law_known", "_law_k", "_law_some", "_law_tower", "_law_lot"]) (sc := defScope st__law_rests) (by decide +kernel)) (fun _ _ _ _ _ => (pg_name (i := 5) sc__law_rests.nd rfl (Or.inl rfl))) (fun _ _ _ _ _ => (pts_one (pt_cmpR op_notIn_seq (pv 5) (pe_ix ix_list (pv 1) (pv 3) (fun _ _ => rfl)) (by rfl)))) (fun _ _ _ _ _ => (pv 5))) (pss_one (ps_for PassesOwn.never rfl (pi_list (pe_slice sl_list (pv 1) (po_some (pv 3)) po_none)) (pg_name (i := 6) sc__law_rests.nd rfl (Or.inr rfl)) (pss_one (ps_dput (hu_of hr) (pv 2) (pe_callTy call_tuple_of (by rfl) B.tuple (by decide +kernel) (pa_cons (pe_lc (own := [("_law_tower", 5)]) (g := (gName 5)) (tt := (tTest (tOp (rIn K true) (tVar 5) (tVar 6)))) (te := (tVar 5)) rfl sc__law_rests.nd (pi_list (pv 4)) (blkOk_by (N := ["_law_ground_here", "_law_lots_here", "_law_known", "_law_k", "_law_some", "_law_tower", "_law_lot"]) (sc := defScope st__law_rests) (by decide +kernel)) (fun _ _ _ _ _ => (pg_name (i := 5) sc__law_rests.nd rfl (Or.inl rfl))) (fun _ _ _ _ _ => (pts_one (pt_cmpR op_notIn_seq (pv 5) (pv 6) (by rfl)))) (fun _ _ _ _ _ => (pv 5))) pa_nil)) pe_bl rfl)))))) (pss_one (ps_ret (hSK _ _ _ _ _ _ _ rfl rfl rfl rfl hr.units (by rfl) B.sorted (pv 2) rfl rfl rfl))))), ?_⟩
  refine q_asgP (P := fun v H' => ∃ d, v = .ref d ∧ H d = none ∧ H' d = some (.dT [])) (fun H3 e3 Q' q' => fun d hd => q' _ _ (Ex.new hd) ⟨d, rfl, fresh_back e3 hd, upd_same⟩) fun dv H1 e1 hdv => ?_
  obtain ⟨d, rfl, d0, d1⟩ := hdv
  refine s_forT (D := { nx := _, rt := Q }) (srcT_range (n := L.length) (fun Hx ex Qx qx => (ea_cons (ev_is (ev_lenL (ev_var rfl) ((e1.trans ex) a _ ha)) (by rw [hxs.len, List.length_map])) ea_nil) Hx (Ex.refl Hx) _ fun H4 e4 => qx H4 e4) (by omega)) (fun Hs i σ' H' => Tk Hs H' ∧ (∃ ks : List (List Str), Kn H H' d ks ∧ ks.Nodup ∧ (∀ k, k ∈ ks ↔ ∃ i' j' A B, i' < i ∧ i' ≤ j' ∧ L[i']? = some A ∧ L[j']? = some B ∧ k = NhM.less (NhM.less T A) B)) ∧ ∃ b c e f, σ' = [some u, some (.ref a), some (.ref d), b, c, e, f]) (fun H2 e2 => ⟨Tk.refl _, ⟨[], ⟨e1.trans e2, ⟨[], e2 d _ d1, rfl⟩⟩, .nil, fun k => by simp⟩, _, _, _, _, rfl⟩) (fun _ _ _ _ _ p => p.1) ?_ ?_
  · rintro Hs es i k0 hik x σ' H0 H' ⟨r1, ⟨ks, kn, knd, kmem⟩, b, c, e, f, rfl⟩ e0 rfl
    obtain ⟨hi, rfl⟩ : k0 < L.length ∧ i = k0 := by
      obtain ⟨h1, h2⟩ := List.getElem?_eq_some_iff.mp hik
      rw [List.length_range] at h1
      rw [List.getElem_range] at h2
      exact ⟨h2 ▸ h1, h2⟩
    refine evG_name H' (Ex.refl _) _ fun H4 e4 => ?_
    have kn4 := (kn.more e0).more e4
    have tk4 := (r1.trans (Tk.ex e0)).trans (Tk.ex e4)
    have hu4 := hu.ex kn4.ex
    have hLi : L[i]? = some L[i] := List.getElem?_eq_getElem hi
    refine q_asgP (lcL (src_P_lot (evP_ix (i := 0) (EvP.var rfl hu4) ev_c rfl)) (by omega) (fun x => !decide (x ∈ L[i])) PyData.str fun x hx v H5 e5 hv => ⟨_, evG_name, rfl, ?_, fun _ => ?_⟩) fun sv H5 e5 hsv => ?_
    · subst hv
      have ee := kn4.ex.trans e5
      exact et_is (et_test (ev_inS (neg := true) (l := L[i]) (ev_var rfl) (evP_ixL (i := i) (ev_var rfl) (ee a _ ha) (hxs.ex ee) (ev_var rfl) (mapGet dLot hLi)))) rfl
    · subst hv
      exact EvP.den (ev_var rfl) (.str x)
    have kn5 := kn4.more e5
    obtain ⟨kv5, hd5⟩ := kn5.k.dT
    obtain ⟨sp, ys, rfl, hs0, hs1, hsd⟩ := hsv
    have nsd : sp ≠ d := fun z => by rw [z, hd5] at hs1; cases hs1
    have hy : ys = (NhM.less T L[i]).map V.str := DenAll.strs.mp hsd
    subst hy
    refine s_forR (srcD_new' (p := d) (H0 := H5) (sl_fromL (k := i) (ev_var rfl) (ev_var rfl) (kn5.ex a _ ha) (hxs.ex kn5.ex)) (by rw [hd5]; exact fun z => nomatch z) hd5 (fun xs z => nomatch z)) (fun Hs j σ' H' => Exd d Hs H' ∧ (∃ ks' : List (List Str), Kn H H' d ks' ∧ ks'.Nodup ∧ ∀ k, k ∈ ks' ↔ k ∈ ks ∨ ∃ B ∈ (L.drop i).take j, k = NhM.less (NhM.less T L[i]) B) ∧ ∃ e f, σ' = [some u, some (.ref a), some (.ref d), some (.int (i : Int)), some (.ref sp), e, f]) (fun H7 e7 => ⟨Exd.refl _ _, ⟨ks, kn5.more e7, knd, fun k => by simp⟩, _, _, rfl⟩) (fun _ _ _ _ _ p => p.1) ?_ ?_
    · rintro Hs2 es2 j dk hj xk σ' H7 H8 ⟨v1, ⟨ks', kn7, knd7, kmem7⟩, e, f, rfl⟩ e8 hk
      obtain ⟨B, hB, rfl⟩ : ∃ B, (L.drop i)[j]? = some B ∧ dk = dLot B := by
        rw [← List.map_drop, List.getElem?_map] at hj
        cases h : (L.drop i)[j]? with
        | none => rw [h] at hj; cases hj
        | some e => rw [h] at hj; cases hj; exact ⟨e, rfl, rfl⟩
      refine evG_name H8 (Ex.refl _) _ fun H9 e9 => ?_
      have kn9 := (kn7.more e8).more e9
      have hs9 : H9 sp = some (.lst ((NhM.less T L[i]).map V.str)) := e9 _ _ (e8 _ _ (v1 sp _ nsd (es2 sp _ hs1)))
      have hk9 : Den H9 xk (dLot B) := hk.ex e9
      have klen : ks'.length ≤ 32 := few_subs h5 knd7 fun k hk => by
        rcases (kmem7 k).mp hk with h | h
        · obtain ⟨_, _, A, B, _, _, _, _, rfl⟩ := (kmem k).mp h
          exact (less_subl _ _).trans (less_subl _ _)
        · obtain ⟨B, _, rfl⟩ := h
          exact (less_subl _ _).trans (less_subl _ _)
      have ll : (NhM.less T L[i]).length ≤ 5 := Nat.le_trans (less_len _ _) h5
      refine s_dputT (P := fun k => k = NhM.less (NhM.less T L[i]) B) (v := .bl true) ev_c (fun H' _ => ev_var rfl) ((evP_tupleOf (lcL ((src_list (ev_var rfl) hs9 (DenAll.strs.mpr rfl)).map' rfl) (by omega) (fun x => !decide (x ∈ B)) PyData.str fun x hx v H10 e10 hv => ⟨_, evG_name, rfl, ?_, fun _ => ?_⟩)).imp fun v H10 _ h => ⟨_, rfl, h⟩) kn9.k (by omega) fun k H10 kvs hkeq e10 hd10 hkeys => ?_
      · cases hv
        exact et_is (et_test (ev_inS (neg := true) (l := B) (ev_var rfl) (EvP.var rfl (hk9.ex e10)))) rfl
      · cases hv
        exact EvP.den (ev_var rfl) (.str x)
      subst hkeq
      refine ⟨(v1.trans (Exd.ex ((e8.trans e9).trans e10))).trans (Exd.upd _), ⟨addK ks' _, ⟨(kn9.ex.trans e10).mut d0, _, upd_same, known_put hkeys _ _⟩, addK_nd knd7, fun x => ?_⟩, _, _, rfl⟩
      rw [mem_addK, kmem7, List.take_add_one, hB]
      constructor
      · rintro ((h | ⟨B', hB', e⟩) | h)
        · exact .inl h
        · exact .inr ⟨B', List.mem_append_left _ hB', e⟩
        · exact .inr ⟨B, List.mem_append_right _ (by simp), h⟩
      · rintro (h | ⟨B', hB', e⟩)
        · exact .inl (.inl h)
        · rcases List.mem_append.mp hB' with h | h
          · exact .inl (.inr ⟨B', h, e⟩)
          · have : B' = B := by simpa using h
            rw [this] at e
            exact .inr e
    · rintro Hs2 es2 σ' H7 ⟨v1, ⟨ks', kn7, knd7, kmem7⟩, e, f, rfl⟩
      rw [← List.map_drop, List.length_map, List.take_length] at kmem7
      have tk7 : Tk Hs2 H7 := v1.tk fun xs z => by rw [es2 d _ hd5] at z; cases z
      refine ⟨((tk4.trans (Tk.ex e5)).trans (Tk.ex es2)).trans tk7, ⟨ks', kn7, knd7, fun k => ?_⟩, _, _, _, _, rfl⟩
      rw [kmem7, kmem]
      constructor
      · rintro (⟨i', j', A, B, h1, h2, h3, h4, h5⟩ | ⟨B, hB, h⟩)
        · exact ⟨i', j', A, B, by omega, h2, h3, h4, h5⟩
        · obtain ⟨j, hj⟩ := List.getElem?_of_mem hB
          rw [List.getElem?_drop] at hj
          exact ⟨i, i + j, L[i], B, Nat.lt_succ_self i, Nat.le_add_right _ _, hLi, hj, h⟩
      · rintro ⟨i', j', A, B, h1, h2, h3, h4, h5⟩
        by_cases hlt : i' < i
        · exact .inl ⟨i', j', A, B, hlt, h2, h3, h4, h5⟩
        · have : i' = i := by omega
          subst this
          rw [hLi] at h3
          cases h3
          refine .inr ⟨B, List.mem_of_getElem? (i := j' - i') ?_, h5⟩
          rw [List.getElem?_drop, show i' + (j' - i') = j' by omega]
          exact h4
  · rintro Hs es σ' H' ⟨r1, ⟨ks, kn, knd, kmem⟩, b, c, e, f, rfl⟩
    rw [List.length_range] at kmem
    have ksub : ∀ k ∈ ks, k.Sublist T := fun k hk => by
      obtain ⟨_, _, A, B, _, _, _, _, rfl⟩ := (kmem k).mp hk
      exact (less_subl _ _).trans (less_subl _ _)
    have klen := few_subs h5 knd ksub
    refine s_retP (D := { nx := fun _ H' => Q .non H', rt := Q }) (evP_sortKeys (ev_var rfl) kn.k (by omega)) fun v H5 e5 hv => ?_
    obtain ⟨Rs, pm, _, hv⟩ := hv
    refine q v H5 (kn.ex.trans e5) ⟨Rs, fun R => ?_, fun k hk => ksub k (pm.mem_iff.mp hk), by rw [pm.length_eq]; exact klen, ?_⟩
    · rw [pm.mem_iff, kmem]
      constructor
      · rintro ⟨i', j', A, B, _, _, h3, h4, h5⟩
        exact ⟨A, List.mem_of_getElem? h3, B, List.mem_of_getElem? h4, h5⟩
      · rintro ⟨A, hA, B, hB, h⟩
        obtain ⟨i, hi⟩ := List.getElem?_of_mem hA
        obtain ⟨j, hj⟩ := List.getElem?_of_mem hB
        have hil := (List.getElem?_eq_some_iff.mp hi).1
        have hjl := (List.getElem?_eq_some_iff.mp hj).1
        rcases Nat.le_total i j with z | z
        · exact ⟨i, j, A, B, hil, z, hi, hj, h⟩
        · exact ⟨j, i, B, A, hjl, z, hj, hi, by rw [h, less_comm]⟩
    · obtain ⟨p, ys, rfl, h1, h2, h3⟩ := hv
      exact ⟨p, ys, rfl, fresh_back kn.ex h1, h2, h3⟩
end
end Nh

namespace Nh
open PySem PySem.Spec PyProof.Rows L2 Evl
section
variable {P : Program} {w : World} {K : PySem.W.Frag} {mg : Str → Option Value} {base : Heap}

theorem ev_dgetT {σ : L2.St} {H : Hp} {td ty : TE} {d : Addr} {k : List Str} {v : V} {kvs : List (List Key × V)} (hd : Ev td σ H (.ref d)) (hk : EvP ty σ H (Da (dLot k))) (h : H d = some (.dT kvs)) (hv : valV kvs (sk k) = some v) : Ev (tDGet td ty) σ H v := fun H1 e Q q =>
  hd H1 e _ fun H2 e2 => hk H2 (e.trans e2) _ fun w H3 e3 pw => by
    obtain ⟨b, rfl, hb⟩ := den_lot.mp pw
    refine ⟨d, v, rfl, ?_, q H3 (e2.trans e3)⟩
    rw [← hv]
    exact DGet.t (k := sk k) ((e.trans (e2.trans e3)) d _ h) (by rw [hb, List.map_map]; rfl)
/-- the table's rows -/
structure TabK (kvs : List (List Key × V)) (ps : List (Str × Str)) (g : NhM.Tab Str) : Prop where
  keys : ∃ ks : List (List Str), kvs.map (·.1) = ks.map sk ∧ ks.Nodup ∧ ∀ k, k ∈ ks ↔ ∃ p ∈ ps, k = [p.1, p.2]
  val : ∀ p ∈ ps, valV kvs (sk [p.1, p.2]) = some (optV (g p.1 p.2))
theorem TabK.nil (g : NhM.Tab Str) : TabK [] [] g := ⟨⟨[], rfl, .nil, fun k => by simp⟩, fun p hp => nomatch hp⟩
theorem TabK.put {kvs : List (List Key × V)} {ps : List (Str × Str)} {g : NhM.Tab Str} (h : TabK kvs ps g) (x y : Str) (v : Option Int) : TabK (putK kvs (sk [x, y]) (optV v)) (ps ++ [(x, y)]) (NhM.putT g x y v) := by
  obtain ⟨ks, h1, h2, h3⟩ := h.keys
  refine ⟨⟨addK ks [x, y], known_put h1 _ _, addK_nd h2, fun k => ?_⟩, fun p hp => ?_⟩
  · rw [mem_addK, h3]
    constructor
    · rintro (⟨p, hp, e⟩ | e)
      · exact ⟨p, List.mem_append_left _ hp, e⟩
      · exact ⟨(x, y), List.mem_append_right _ (by simp), e⟩
    · rintro ⟨p, hp, e⟩
      rcases List.mem_append.mp hp with hp | hp
      · exact .inl ⟨p, hp, e⟩
      · rw [List.mem_singleton.mp hp] at e; exact .inr e
  · rw [valV_put]
    by_cases e : p.1 = x ∧ p.2 = y
    · rw [e.1, e.2, if_pos rfl, NhM.putT_same]
    · rw [if_neg (fun z => e (by have := sk_inj z; exact ⟨(List.cons.inj this).1, (List.cons.inj (List.cons.inj this).2).1⟩)), NhM.putT_ne e]
      rcases List.mem_append.mp hp with hp | hp
      · exact h.val p hp
      · rw [List.mem_singleton.mp hp] at e; exact absurd ⟨rfl, rfl⟩ e
theorem TabK.congr {kvs : List (List Key × V)} {ps qs : List (Str × Str)} {g f : NhM.Tab Str} (h : TabK kvs ps g) (hp : ∀ p, p ∈ qs ↔ p ∈ ps) (hg : ∀ p ∈ ps, g p.1 p.2 = f p.1 p.2) : TabK kvs qs f := by
  obtain ⟨ks, h1, h2, h3⟩ := h.keys
  refine ⟨⟨ks, h1, h2, fun k => ?_⟩, fun p hp' => ?_⟩
  · rw [h3]
    exact ⟨fun ⟨p, h, e⟩ => ⟨p, (hp p).mpr h, e⟩, fun ⟨p, h, e⟩ => ⟨p, (hp p).mp h, e⟩⟩
  · rw [h.val p ((hp p).mp hp'), hg p ((hp p).mp hp')]
/-- all pairs of some towers -/
def sq (R : List Str) : List (Str × Str) := R.flatMap fun a => R.map fun b => (a, b)
theorem mem_sq {R : List Str} {p : Str × Str} : p ∈ sq R ↔ p.1 ∈ R ∧ p.2 ∈ R := by
  unfold sq
  rw [List.mem_flatMap]
  constructor
  · rintro ⟨a, ha, h⟩
    obtain ⟨b, hb, rfl⟩ := List.mem_map.mp h
    exact ⟨ha, hb⟩
  · rintro ⟨h1, h2⟩
    exact ⟨p.1, h1, List.mem_map.mpr ⟨p.2, h2, rfl⟩⟩
theorem TabK.set {kvs : List (List Key × V)} {R : List Str} {g : NhM.Tab Str} (h : TabK kvs (sq R) g) {x y : Str} (hx : x ∈ R) (hy : y ∈ R) (v : Option Int) : TabK (putK kvs (sk [x, y]) (optV v)) (sq R) (NhM.putT g x y v) :=
  (h.put x y v).congr (fun p => by
    rw [List.mem_append, List.mem_singleton]
    exact ⟨.inl, fun z => z.elim id fun e => by rw [e]; exact mem_sq.mpr ⟨hx, hy⟩⟩) fun _ _ => rfl
theorem TabK.few {kvs : List (List Key × V)} {R : List Str} {ps : List (Str × Str)} {g : NhM.Tab Str} (h : TabK kvs ps g) (h5 : R.length ≤ 5) (hs : ∀ p ∈ ps, p.1 ∈ R ∧ p.2 ∈ R) : ∃ ks : List (List Str), kvs.map (·.1) = ks.map sk ∧ ks.length ≤ 25 := by
  obtain ⟨ks, h1, h2, h3⟩ := h.keys
  refine ⟨ks, h1, ?_⟩
  have := NhM.nodup_le ks ((sq R).map fun p => [p.1, p.2]) h2 fun k hk => by
    obtain ⟨p, hp, e⟩ := (h3 k).mp hk
    exact List.mem_map.mpr ⟨p, mem_sq.mpr (hs p hp), e.symm⟩
  rw [List.length_map] at this
  have l2 := len_flat (fun a => R.map fun b => (a, b)) R.length R fun a _ => by rw [List.length_map]; exact Nat.le_refl _
  have l3 : R.length * R.length ≤ 25 := by
    have := Nat.mul_le_mul h5 h5
    omega
  have l4 : (sq R).length ≤ R.length * R.length := l2
  omega
/-- the table in the heap -/
structure TabAt (H H' : Hp) (d : Addr) (ps : List (Str × Str)) (g : NhM.Tab Str) : Prop where
  ex : Ex H H'
  t : ∃ kvs, H' d = some (.dT kvs) ∧ TabK kvs ps g
theorem TabAt.more {H H1 H2 : Hp} {d : Addr} {ps : List (Str × Str)} {g : NhM.Tab Str} (h : TabAt H H1 d ps g) (e : Ex H1 H2) : TabAt H H2 d ps g := by
  obtain ⟨kvs, h1, h2⟩ := h.t
  exact ⟨h.ex.trans e, kvs, e d _ h1, h2⟩
/-- table[x, y] = v -/
theorem s_putTab {σ : L2.St} {H H0 : Hp} {td tv ty : TE} {D : Ends} {d : Addr} {R : List Str} {ps : List (Str × Str)} {g : NhM.Tab Str} {x y : Str} {v : Option Int} (h : TabAt H0 H d ps g) (hv : Ev tv σ H (optV v)) (hd : ∀ H', Ev td σ H' (.ref d)) (hk : EvP ty σ H (Da (dLot [x, y]))) (h0 : H0 d = none) (h5 : R.length ≤ 5) (hs : ∀ p ∈ ps, p.1 ∈ R ∧ p.2 ∈ R)
    (k : ∀ H1, TabAt H0 H1 d (ps ++ [(x, y)]) (NhM.putT g x y v) → Tk H H1 → D.nx σ H1) : sDPut td ty tv D σ H := by
  obtain ⟨kvs, h1, h2⟩ := h.t
  obtain ⟨ks, k1, k2⟩ := h2.few h5 hs
  refine s_dputT (P := fun k => k = [x, y]) (v := optV v) hv (fun H' _ => hd H') (hk.imp fun w H' _ hw => ⟨_, rfl, hw⟩) ⟨kvs, h1, k1⟩ (by omega) fun l H1 kvs' hl e1 hd1 hkeys => ?_
  subst hl
  have : kvs' = kvs := by
    have := e1 d _ h1
    rw [hd1] at this
    cases this
    rfl
  subst this
  exact k _ ⟨(h.ex.trans e1).mut h0, _, upd_same, h2.put x y v⟩ ((Tk.ex e1).trans (Tk.upd fun xs z => by rw [hd1] at z; cases z))
theorem q_putTab {σ : L2.St} {H H0 : Hp} {td tv ty : TE} {tz : TS} {D : Ends} {d : Addr} {R : List Str} {ps : List (Str × Str)} {g : NhM.Tab Str} {x y : Str} {v : Option Int} (h : TabAt H0 H d ps g) (hv : Ev tv σ H (optV v)) (hd : ∀ H', Ev td σ H' (.ref d)) (hk : EvP ty σ H (Da (dLot [x, y]))) (h0 : H0 d = none) (h5 : R.length ≤ 5) (hs : ∀ p ∈ ps, p.1 ∈ R ∧ p.2 ∈ R)
    (k : ∀ H1, TabAt H0 H1 d (ps ++ [(x, y)]) (NhM.putT g x y v) → Tk H H1 → tz D σ H1) : tSeq (sDPut td ty tv) tz D σ H := s_putTab (D := { D with nx := tz D }) h hv hd hk h0 h5 hs k
theorem ev_tab {σ : L2.St} {H H0 : Hp} {td ty : TE} {d : Addr} {ps : List (Str × Str)} {g : NhM.Tab Str} {x y : Str} (h : TabAt H0 H d ps g) (hd : Ev td σ H (.ref d)) (hk : EvP ty σ H (Da (dLot [x, y]))) (hp : (x, y) ∈ ps) : Ev (tDGet td ty) σ H (optV (g x y)) := by
  obtain ⟨kvs, h1, h2⟩ := h.t
  exact ev_dgetT hd hk h1 (h2.val (x, y) hp)
theorem evP_two {σ : L2.St} {H : Hp} {ta tb : TE} {x y : Str} (h : Ev ta σ H (.str x)) (h' : Ev tb σ H (.str y)) : EvP (tTup (tCons ta (tCons tb tNil))) σ H (Da (dLot [x, y])) := evP_tup (EvP.of2 (evP_of_str h) (evP_of_str h')) (show 2 ≤ 100000 by decide)
theorem opt_non (o : Option Int) : decide (optV o = .non) = !o.isSome := by cases o <;> rfl
theorem town_simple {T : List Str} {E : List Wr} (h : TownOk T E) : NhM.Simple E := by
  have pw : ∀ (j i : Nat) e f, i < j → E[i]? = some e → E[j]? = some f → ltL (wkey e) (wkey f) = true := by
    intro j
    induction j with
    | zero => intro i e f hij; exact absurd hij (Nat.not_lt_zero _)
    | succ j ih =>
      intro i e f hij he hf
      have hj : j < E.length := by have := (List.getElem?_eq_some_iff.mp hf).1; omega
      have hg := List.getElem?_eq_getElem hj
      have last := h.ord j _ _ hg hf
      by_cases hi : i = j
      · subst hi
        rw [he] at hg
        cases hg
        exact last
      · exact ltL_trans _ _ _ (ih i e _ (by omega) he hg) last
  refine ⟨fun e he z => ?_, List.pairwise_iff_getElem.mpr fun i j hi hj hij z => ?_⟩
  · have := (h.w e he).2.2.1
    rw [z] at this
    exact ltS_irr _ this
  · have h1 := List.getElem?_eq_getElem hi
    have h2 := List.getElem?_eq_getElem hj
    rcases z with ⟨a, b⟩ | ⟨a, b⟩
    · have := pw j i _ _ hij h1 h2
      have e : wkey E[i] = wkey E[j] := by show [_, _] = [_, _]; rw [a, b]
      rw [e, ltL_irr] at this
      cases this
    · have k1 := (h.w _ (List.mem_of_getElem? h1)).2.2.1
      have k2 := (h.w _ (List.mem_of_getElem? h2)).2.2.1
      rw [a, b] at k1
      exact ltS_asy k1 k2
theorem evP_lcE {K : PySem.W.Frag} {σ : L2.St} {H : Hp} {te tx : TE} {g : TG} {tt : TT} {vs : List Nat} {P : PP} {γ : Type} {φ : γ → Prop} {ds : γ → List PyData} (h : EvP te σ H (fun v H' => ∃ c, φ c ∧ ND H (ds c) v H')) (k : ∀ c, φ c → ∀ H1 te', Ex H H1 → EvP te' σ H1 (ND H (ds c)) → EvP (tLc (iList K te') g tt tx vs) σ H1 P) : EvP (tLc (iList K te) g tt tx vs) σ H P := fun H1 e Q q =>
  h H1 e _ fun v H2 e2 hv => by
    obtain ⟨c, hc, hn⟩ := hv
    exact k c hc H2 (tC v) (e.trans e2) (EvP.of ev_c fun H3 e3 => ND.mono e3 hn) H2 (Ex.refl H2) Q fun w H3 e3 => q w H3 (e2.trans e3)
theorem ev_maxP {K : PySem.W.Frag} {σ : L2.St} {H H0 : Hp} {te : TE} {ns : List Int} (h : EvP te σ H (ND H0 (ns.map .int))) (hn : 0 < ns.length) : EvP (tCB (rMax K) (tCons te tNil)) σ H (fun v _ => ∃ m, v = .int m ∧ m ∈ ns ∧ ∀ y ∈ ns, y ≤ m) := fun H1 e Q q =>
  h H1 e _ fun v H2 e2 hv => by
    obtain ⟨p, ys, rfl, _, hp, hd⟩ := hv
    rw [DenAll.ints.mp hd] at hp
    exact ⟨p, ns, rfl, Evl.sq_of hp, hn, fun m hm hle => q _ H2 e2 ⟨m, rfl, hm, hle⟩⟩
theorem t_call2 {sp : Sp} {σ : L2.St} {H : Hp} {ta tb : TE} {u v : V} {Q : VK} {E : XK} (h : Ev ta σ H u) (h' : Ev tb σ H v) (k : ∀ H1, Ex H H1 → sp [u, v] H1 Q E) : tCall sp [] E (tCons ta (tCons tb tNil)) σ H Q :=
  h H (Ex.refl H) _ fun H1 e1 => h' H1 e1 _ fun H2 e2 => k H2 (e1.trans e2)
def pairVal (g : NhM.Tab Str) : List Str → Option Int
  | [a, b] => g a b
  | _ => none
abbrev st__law_widest : Stmt := topS 52
theorem sc__law_widest : FnScope ["_law_ground_here", "_law_some", "_law_table", "_law_one", "_law_other", "_law_low", "_law_high", "_law_mid", "_law_here", "_law_there", "_law_now", "_law_sums", "_law_pair"] ["_law_ground_here", "_law_some"] (defScope st__law_widest) := ⟨rfl, rfl, rfl, by decide +kernel, rfl, by decide +kernel, by decide +kernel⟩

def sp__law_widest : Sp := spD (fun (i : List Str × List Wr × List Str) => [dTown i.1 i.2.1, dLot i.2.2]) (fun i => TownOk i.1 i.2.1 ∧ i.2.2.length ≤ 5) (fun i _ v H' => ∃ r, NhM.WidestSpec i.2.1 i.2.2 r ∧ Den H' v (dOpt r))
theorem ok__law_widest {f : Addr} {fd : FuncData} (D : Df K mg "_law_widest" st__law_widest ["_law_ground_here", "_law_some"] f fd) (B : Bn mg) (hSK : SortKeys P w K) : C8.Cal P w K mg base 1 "_law_widest" sp__law_widest [] := by
  refine D.cal (D.F.ok (k := 0) sc__law_widest (spD_len 2 fun _ => rfl) (fun cdv A outer s H vs Q E hr h => ?_))
  obtain ⟨⟨T, E', R⟩, hd, ⟨ok, h5⟩, q⟩ := h
  obtain ⟨u, v, rfl, hu, hv⟩ := hd.two
  have hu : Den H u (.tuple [dLot T, .tuple (E'.map dWire)]) := hu
  have hv : Den H v (dLot R) := hv
  have ok : TownOk T E' := ok
  have h5 : R.length ≤ 5 := h5
  have q : ∀ (v : V) (H' : Hp), Ex H H' → (∃ r, NhM.WidestSpec E' R r ∧ Den H' v (dOpt r)) → Q v H' := q
  have hE := ok.elen
  refine ⟨_, (pss_cons (ps_asg pe_dnewT (pg_name (i := 2) sc__law_widest.nd rfl (Or.inr rfl))) (pss_cons (ps_for PassesOwn.never rfl (pi_tup (pv 1)) (pg_name (i := 3) sc__law_widest.nd rfl (Or.inl rfl)) (pss_one (ps_for PassesOwn.never rfl (pi_tup (pv 1)) (pg_name (i := 4) sc__law_widest.nd rfl (Or.inl rfl)) (pss_one (ps_dput (hu_of hr) (pv 2) (pe_tup (pa_cons (pv 3) (pa_cons (pv 4) pa_nil))) (pe_ifExp (pt_cmpR op_eq (pv 3) (pv 4) (nomark _)) pe_int pe_non) rfl))))) (pss_cons (ps_for PassesOwn.never rfl (pi_tup (pe_ix ix_tup (pv 0) pe_int (fun _ _ => rfl))) (pg_tup (n := 4) rfl (pgs_cons (pg_name (i := 3) sc__law_widest.nd rfl (Or.inl rfl)) (pgs_cons (pg_name (i := 4) sc__law_widest.nd rfl (Or.inl rfl)) (pgs_cons (pg_name (i := 5) sc__law_widest.nd rfl (Or.inl rfl)) (pgs_cons (pg_name (i := 6) sc__law_widest.nd rfl (Or.inl rfl)) pgs_nil))))) (pss_one (ps_if (PW.pt (pw_and (pt_cmpR op_in_seq (pv 3) (pv 1) (by rfl)) (pw_and1 (pt_cmpR op_in_seq (pv 4) (pv 1) (by rfl))))) (pss_cons (ps_dput (hu_of hr) (pv 2) (pe_tup (pa_cons (pv 3) (pa_cons (pv 4) pa_nil))) (pe_op op_sub (pv 6) (pv 5)) rfl) (pss_one (ps_dput (hu_of hr) (pv 2) (pe_tup (pa_cons (pv 4) (pa_cons (pv 3) pa_nil))) (pe_op op_sub (pv 6) (pv 5)) rfl))) pss_nil))) (pss_cons (ps_for PassesOwn.never rfl (pi_tup (pv 1)) (pg_name (i := 7) sc__law_widest.nd rfl (Or.inl rfl)) (pss_one (ps_for PassesOwn.never rfl (pi_tup (pv 1)) (pg_name (i := 3) sc__law_widest.nd rfl (Or.inl rfl)) (pss_one (ps_for PassesOwn.never rfl (pi_tup (pv 1)) (pg_name (i := 4) sc__law_widest.nd rfl (Or.inl rfl)) (pss_cons (ps_par (i := 8) (j := 9) rfl sc__law_widest.nd rfl rfl (by decide) rfl rfl (pa_cons (pe_dget (hu_of hr) (pv 2) (pe_tup (pa_cons (pv 3) (pa_cons (pv 7) pa_nil))) (fun _ _ => rfl)) (pa_cons (pe_dget (hu_of hr) (pv 2) (pe_tup (pa_cons (pv 7) (pa_cons (pv 4) pa_nil))) (fun _ _ => rfl)) pa_nil)) (by rfl)) (pss_one (ps_if (PW.pt (pw_and (pt_cmpR op_notN (pv 8) pe_non (nomark _)) (pw_and1 (pt_cmpR op_notN (pv 9) pe_non (nomark _))))) (pss_cons (ps_asg (pe_dget (hu_of hr) (pv 2) (pe_tup (pa_cons (pv 3) (pa_cons (pv 4) pa_nil))) (fun _ _ => rfl)) (pg_name (i := 10) sc__law_widest.nd rfl (Or.inl rfl))) (pss_one (ps_if (PW.pt (pw_or (pt_cmpR op_isN (pv 10) pe_non (nomark _)) (pw_or1 (pt_cmpR op_lt (pe_op op_add (pv 8) (pv 9)) (pv 10) (nomark _))))) (pss_one (ps_dput (hu_of hr) (pv 2) (pe_tup (pa_cons (pv 3) (pa_cons (pv 4) pa_nil))) (pe_op op_add (pv 8) (pv 9)) rfl)) pss_nil))) pss_nil)))))))) (pss_cons (ps_setLc (i := 11) (own := [("_law_pair", 12)]) (g := (gName 12)) (tt := tYes) (te := (tDGet (tVar 2) (tVar 12))) rfl sc__law_widest.nd rfl rfl (sw_true rfl rfl rfl (by decide +kernel)) (pi_list (hSK _ _ _ _ _ _ _ rfl rfl rfl rfl hr.units (by rfl) B.sorted (pv 2) rfl rfl rfl)) (blkOk_by (N := ["_law_ground_here", "_law_some", "_law_table", "_law_one", "_law_other", "_law_low", "_law_high", "_law_mid", "_law_here", "_law_there", "_law_now", "_law_sums", "_law_pair"]) (sc := defScope st__law_widest) (by decide +kernel)) (fun _ _ _ _ _ => (pg_name (i := 12) sc__law_widest.nd rfl (Or.inl rfl))) (fun _ _ _ _ _ => pts_nil) (fun _ _ _ _ _ => (pe_dget (hu_of hr) (pv 2) (pv 12) (fun _ _ => rfl)))) (pss_one (ps_ret (pe_ifExp (pt_cmpR op_in_seq pe_non (pv 11) (by rfl)) pe_non (pe_callB (cr_max rfl) (by rfl) B.max (by decide +kernel) (pa_cons (pe_op op_cat (pe_lst (pa_cons pe_int pa_nil)) (pv 11)) pa_nil)))))))))), ?_⟩
  refine q_asgP (P := fun v H' => ∃ d, v = .ref d ∧ H d = none ∧ H' d = some (.dT [])) (fun H3 e3 Q' q' => fun d hd => q' _ _ (Ex.new hd) ⟨d, rfl, fresh_back e3 hd, upd_same⟩) fun dv H1 e1 hdv => ?_
  obtain ⟨d, rfl, d0, d1⟩ := hdv
  have ta1 : TabAt H H1 d [] (NhM.tab0 : NhM.Tab Str) := ⟨e1, [], d1, TabK.nil _⟩
  -- the table, filled
  refine s_forT (D := { nx := _, rt := Q }) (srcT_lot (EvP.var rfl (hv.ex e1))) (fun Hs i σ' H' => Tk Hs H' ∧ TabAt H H' d ((R.take i).flatMap fun a => R.map fun b => (a, b)) (NhM.tab0 : NhM.Tab Str) ∧ ∃ a b, σ' = [some u, some v, some (.ref d), a, b, none, none, none, none, none, none, none, none]) (fun H2 e2 => ⟨Tk.refl _, ta1.more e2, _, _, rfl⟩) (fun _ _ _ _ _ p => p.1) ?_ ?_
  · rintro Hs es i x hi xv σ' H0 H' ⟨r1, r2, a, b, rfl⟩ e0 rfl
    refine evG_name H' (Ex.refl _) _ fun H4 e4 => ?_
    have t4 := (r2.more e0).more e4
    have tk4 := (r1.trans (Tk.ex e0)).trans (Tk.ex e4)
    have hxR := List.mem_of_getElem? hi
    refine s_forT (srcT_lot (EvP.var rfl (hv.ex t4.ex))) (fun Hs j σ' H' => Tk Hs H' ∧ TabAt H H' d (((R.take i).flatMap fun a => R.map fun b => (a, b)) ++ (R.take j).map fun b => (x, b)) (NhM.tab0 : NhM.Tab Str) ∧ ∃ b, σ' = [some u, some v, some (.ref d), some (.str x), b, none, none, none, none, none, none, none, none]) (fun H5 e5 => ⟨Tk.refl _, by rw [List.take_zero, List.map_nil, List.append_nil]; exact t4.more e5, _, rfl⟩) (fun _ _ _ _ _ p => p.1) ?_ ?_
    · rintro Hs2 es2 j y hj yv σ' H5 H6 ⟨v1, v2, b, rfl⟩ e6 rfl
      refine evG_name H6 (Ex.refl _) _ fun H7 e7 => ?_
      have t7 := (v2.more e6).more e7
      refine s_putTab (R := R) (v := NhM.tab0 x y) t7 (ev_if (b := decide (x = y)) (et_test (ev_eqStr (ev_var rfl) (ev_var rfl))) (fun hb => ?_) fun hb => ?_) (fun H' => ev_var rfl) (evP_two (ev_var rfl) (ev_var rfl)) d0 h5 (fun p hp => ?_) fun H8 t8 tk8 => ?_
      · have : NhM.tab0 x y = some 0 := if_pos (of_decide_eq_true hb)
        rw [this]; exact ev_c
      · have : NhM.tab0 x y = none := if_neg (of_decide_eq_false hb)
        rw [this]; exact ev_c
      · rcases List.mem_append.mp hp with hp | hp
        · obtain ⟨a, ha, hb⟩ := List.mem_flatMap.mp hp
          obtain ⟨b, hb2, rfl⟩ := List.mem_map.mp hb
          exact ⟨List.mem_of_mem_take ha, hb2⟩
        · obtain ⟨b, hb, rfl⟩ := List.mem_map.mp hp
          exact ⟨hxR, List.mem_of_mem_take hb⟩
      · refine ⟨((v1.trans (Tk.ex e6)).trans (Tk.ex e7)).trans tk8, ⟨t8.ex, ?_⟩, _, rfl⟩
        obtain ⟨kvs, h1, h2⟩ := t8.t
        refine ⟨kvs, h1, h2.congr (fun p => ?_) fun p _ => ?_⟩
        · rw [List.take_add_one, hj, Option.toList_some, List.map_append, ← List.append_assoc]
          exact Iff.rfl
        · by_cases z : p.1 = x ∧ p.2 = y
          · rw [z.1, z.2, NhM.putT_same]
          · rw [NhM.putT_ne z]
    · rintro Hs2 es2 σ' H5 ⟨v1, v2, b, rfl⟩
      rw [List.take_length] at v2
      refine ⟨(tk4.trans (Tk.ex es2)).trans v1, ?_, _, _, rfl⟩
      rw [take_flat (fun a => R.map fun b => (a, b)) hi]
      exact v2
  rintro Hs es σ' H2 ⟨_, ta2, a, b, rfl⟩
  rw [List.take_length] at ta2
  have ta2 : TabAt H H2 d (sq R) (NhM.tab0 : NhM.Tab Str) := ta2
  have inR : ∀ p ∈ sq R, p.1 ∈ R ∧ p.2 ∈ R := fun p hp => mem_sq.mp hp
  -- the wires
  refine s_forT (D := { nx := _, rt := Q }) (srcT_P (evP_ix (i := 1) (EvP.var rfl (hu.ex ta2.ex)) ev_c rfl)) (fun Hs i σ' H' => Tk Hs H' ∧ TabAt H H' d (sq R) (NhM.tabE R (E'.take i) NhM.tab0) ∧ ∃ a b c e, σ' = [some u, some v, some (.ref d), a, b, c, e, none, none, none, none, none, none]) (fun H3 e3 => ⟨Tk.refl _, ta2.more e3, _, _, _, _, rfl⟩) (fun _ _ _ _ _ p => p.1) ?_ ?_
  · rintro Hs1 es1 i dw hi xw σ' H5 H6 ⟨t1, t2, a, b, c, e, rfl⟩ e6 hw
    obtain ⟨⟨ea, eb, lo, hh⟩, hwi, rfl⟩ : ∃ e, E'[i]? = some e ∧ dw = dWire e := by
      rw [List.getElem?_map] at hi
      cases h : E'[i]? with
      | none => rw [h] at hi; cases hi
      | some e => rw [h] at hi; cases hi; exact ⟨e, rfl, rfl⟩
    obtain ⟨tw, xs, rfl, htw, hdw⟩ := Den.tuple hw
    obtain ⟨y1, y2, y3, y4, rfl, g1, g2, g3, g4⟩ := hdw.four
    cases g1
    cases g2
    cases g3
    cases g4
    have stp : NhM.tabE R (E'.take (i + 1)) NhM.tab0 = NhM.tabW R ⟨ea, eb, lo, hh⟩ (NhM.tabE R (E'.take i) NhM.tab0) := by
      rw [List.take_add_one, hwi]
      unfold NhM.tabE
      rw [Option.toList_some, List.foldl_append]
      rfl
    rw [stp]
    generalize NhM.tabE R (E'.take i) NhM.tab0 = g at t2
    refine evG_quad (σ := [some u, some v, some (.ref d), a, b, c, e, none, none, none, none, none, none]) htw H6 (Ex.refl _) _ fun H7 e7 => ?_
    have t7 := (t2.more e6).more e7
    have tk7 := (t1.trans (Tk.ex e6)).trans (Tk.ex e7)
    have hv7 := hv.ex t7.ex
    refine s_if (b := decide (ea ∈ R ∧ eb ∈ R)) (et_is (et_and (evP_inS' (ev_var rfl) (EvP.var rfl hv7)) fun _ => evP_inS' (ev_var rfl) (EvP.var rfl hv7)) (by simp)) (fun hb H8 e8 => ?_) fun hb H8 e8 => ?_
    · have hb := of_decide_eq_true hb
      have t8 := t7.more e8
      refine q_putTab (R := R) (v := some (hh - lo)) t8 (ev_sub (ev_var rfl) (ev_var rfl)) (fun H' => ev_var rfl) (evP_two (ev_var rfl) (ev_var rfl)) d0 h5 inR fun H9 t9 tk9 => ?_
      have t9 : TabAt H H9 d (sq R) (NhM.putT g ea eb (some (hh - lo))) := by
        obtain ⟨kvs, h1, h2⟩ := t9.t
        exact ⟨t9.ex, kvs, h1, h2.congr (fun p => by
          rw [List.mem_append, List.mem_singleton]
          exact ⟨.inl, fun z => z.elim id fun e => by rw [e]; exact mem_sq.mpr hb⟩) fun _ _ => rfl⟩
      refine s_putTab (R := R) (v := some (hh - lo)) t9 (ev_sub (ev_var rfl) (ev_var rfl)) (fun H' => ev_var rfl) (evP_two (ev_var rfl) (ev_var rfl)) d0 h5 inR fun H10 t10 tk10 => ?_
      refine ⟨((tk7.trans (Tk.ex e8)).trans tk9).trans tk10, ?_, _, _, _, _, rfl⟩
      have ew : NhM.tabW R ⟨ea, eb, lo, hh⟩ g = NhM.putT (NhM.putT g ea eb (some (hh - lo))) eb ea (some (hh - lo)) := if_pos hb
      rw [ew]
      obtain ⟨kvs, h1, h2⟩ := t10.t
      exact ⟨t10.ex, kvs, h1, h2.congr (fun p => by
        rw [List.mem_append, List.mem_singleton]
        exact ⟨.inl, fun z => z.elim id fun e => by rw [e]; exact mem_sq.mpr ⟨hb.2, hb.1⟩⟩) fun _ _ => rfl⟩
    · have ew : NhM.tabW R ⟨ea, eb, lo, hh⟩ g = g := if_neg (of_decide_eq_false hb)
      rw [ew]
      exact ⟨tk7.trans (Tk.ex e8), t7.more e8, _, _, _, _, rfl⟩
  rintro Hs1 es1 σ' H3 ⟨_, ta3, a, b, c, e, rfl⟩
  rw [List.length_map, List.take_length] at ta3
  -- by way of each
  refine s_forT (D := { nx := _, rt := Q }) (srcT_lot (EvP.var rfl (hv.ex ta3.ex))) (fun Hs i σ' H' => Tk Hs H' ∧ TabAt H H' d (sq R) (NhM.fwM (R.take i) R R (NhM.tabE R E' NhM.tab0)) ∧ ∃ a b c e f g h j, σ' = [some u, some v, some (.ref d), a, b, c, e, f, g, h, j, none, none]) (fun H4 e4 => ⟨Tk.refl _, ta3.more e4, _, _, _, _, _, _, _, _, rfl⟩) (fun _ _ _ _ _ p => p.1) ?_ ?_
  · rintro Hs i1 i m hi xm σ' H0 H' ⟨r1, r2, a, b, c, e, f, g, h, j, rfl⟩ e0 rfl
    have hmR := List.mem_of_getElem? hi
    have stp : NhM.fwM (R.take (i + 1)) R R (NhM.tabE R E' NhM.tab0) = NhM.fwX m R R (NhM.fwM (R.take i) R R (NhM.tabE R E' NhM.tab0)) := by
      rw [List.take_add_one, hi]
      unfold NhM.fwM
      rw [Option.toList_some, List.foldl_append]
      rfl
    rw [stp]
    generalize NhM.fwM (R.take i) R R (NhM.tabE R E' NhM.tab0) = g0 at r2
    refine evG_name H' (Ex.refl _) _ fun H4 e4 => ?_
    have t4 := (r2.more e0).more e4
    have tk4 := (r1.trans (Tk.ex e0)).trans (Tk.ex e4)
    refine s_forT (srcT_lot (EvP.var rfl (hv.ex t4.ex))) (fun Hs i σ' H' => Tk Hs H' ∧ TabAt H H' d (sq R) (NhM.fwX m (R.take i) R g0) ∧ ∃ a b c e g h j, σ' = [some u, some v, some (.ref d), a, b, c, e, some (.str m), g, h, j, none, none]) (fun H5 e5 => ⟨Tk.refl _, t4.more e5, _, _, _, _, _, _, _, rfl⟩) (fun _ _ _ _ _ p => p.1) ?_ ?_
    · rintro Hs2 i2 j2 x hx xv σ' H5 H6 ⟨v1, v2, a, b, c, e, g, h, j, rfl⟩ e6 rfl
      have hxR := List.mem_of_getElem? hx
      have stp2 : NhM.fwX m (R.take (j2 + 1)) R g0 = NhM.fwY m x R (NhM.fwX m (R.take j2) R g0) := by
        rw [List.take_add_one, hx]
        unfold NhM.fwX
        rw [Option.toList_some, List.foldl_append]
        rfl
      rw [stp2]
      generalize NhM.fwX m (R.take j2) R g0 = g1 at v2
      refine evG_name H6 (Ex.refl _) _ fun H7 e7 => ?_
      have t7 := (v2.more e6).more e7
      have tk7 := (v1.trans (Tk.ex e6)).trans (Tk.ex e7)
      refine s_forT (srcT_lot (EvP.var rfl (hv.ex t7.ex))) (fun Hs i σ' H' => Tk Hs H' ∧ TabAt H H' d (sq R) (NhM.fwY m x (R.take i) g1) ∧ ∃ b c e g h j, σ' = [some u, some v, some (.ref d), some (.str x), b, c, e, some (.str m), g, h, j, none, none]) (fun H8 e8 => ⟨Tk.refl _, t7.more e8, _, _, _, _, _, _, rfl⟩) (fun _ _ _ _ _ p => p.1) ?_ ?_
      · rintro Hs3 i3 j3 y hy yv σ' H8 H9 ⟨w1, w2, b, c, e, g, h, j, rfl⟩ e9 rfl
        have hyR := List.mem_of_getElem? hy
        have stp3 : NhM.fwY m x (R.take (j3 + 1)) g1 = NhM.fwS m x y (NhM.fwY m x (R.take j3) g1) := by
          rw [List.take_add_one, hy]
          unfold NhM.fwY
          rw [Option.toList_some, List.foldl_append]
          rfl
        rw [stp3]
        generalize NhM.fwY m x (R.take j3) g1 = g2 at w2
        refine evG_name H9 (Ex.refl _) _ fun H10 e10 => ?_
        have t10 := (w2.more e9).more e10
        have tk10 := (w1.trans (Tk.ex e9)).trans (Tk.ex e10)
        refine q_parV (x := optV (g2 x m)) (y := optV (g2 m y)) (ev_tab t10 (ev_var rfl) (evP_two (ev_var rfl) (ev_var rfl)) (mem_sq.mpr ⟨hxR, hmR⟩)) (ev_tab t10 (ev_var rfl) (evP_two (ev_var rfl) (ev_var rfl)) (mem_sq.mpr ⟨hmR, hyR⟩)) fun H11 e11 => ?_
        have t11 := t10.more e11
        have tk11 := tk10.trans (Tk.ex e11)
        refine s_if (et_and (et_is (et_test (ev_notNone (ev_var rfl))) (by rw [opt_non, Bool.not_not])) fun _ => et_is (et_test (ev_notNone (ev_var rfl))) (by rw [opt_non, Bool.not_not])) (fun hb H12 e12 => ?_) fun hb H12 e12 => ?_
        · have t12 := t11.more e12
          have tk12 := tk11.trans (Tk.ex e12)
          rw [Bool.and_eq_true] at hb
          obtain ⟨hp, hq⟩ := hb
          obtain ⟨pp, hp⟩ := Option.isSome_iff_exists.mp hp
          obtain ⟨qq, hq⟩ := Option.isSome_iff_exists.mp hq
          rw [hp, hq]
          refine q_asg (v := optV (g2 x y)) (ev_tab t12 (ev_var rfl) (evP_two (ev_var rfl) (ev_var rfl)) (mem_sq.mpr ⟨hxR, hyR⟩)) fun H13 e13 => ?_
          have t13 := t12.more e13
          have tk13 := tk12.trans (Tk.ex e13)
          have fw : NhM.fwS m x y g2 = match g2 x y with
              | some r => if pp + qq < r then NhM.putT g2 x y (some (pp + qq)) else g2
              | none => NhM.putT g2 x y (some (pp + qq)) := by
            unfold NhM.fwS
            rw [hp, hq]
            first | done | (cases g2 x y <;> rfl)
          have put : ∀ (Hx : Hp) (D : Ends) (j' : Option V), TabAt H Hx d (sq R) g2 → (∀ H', TabAt H H' d (sq R) (NhM.putT g2 x y (some (pp + qq))) → Tk Hx H' → D.nx [some u, some v, some (.ref d), some (.str x), some (.str y), c, e, some (.str m), some (optV (some pp)), some (optV (some qq)), j', none, none] H') →
              sDPut (tVar 2) (tTup (tCons (tVar 3) (tCons (tVar 4) tNil))) (tOp (rI0 fun i j => .int (i + j)) (tVar 8) (tVar 9)) D [some u, some v, some (.ref d), some (.str x), some (.str y), c, e, some (.str m), some (optV (some pp)), some (optV (some qq)), j', none, none] Hx := by
            intro Hx D j' tx k
            refine s_putTab (R := R) (v := some (pp + qq)) tx (ev_add (i := pp) (j := qq) (ev_var rfl) (ev_var rfl)) (fun H' => ev_var rfl) (evP_two (ev_var rfl) (ev_var rfl)) d0 h5 inR fun H14 t14 tk14 => k H14 ?_ tk14
            obtain ⟨kvs, h1, h2⟩ := t14.t
            exact ⟨t14.ex, kvs, h1, h2.congr (fun p => by
              rw [List.mem_append, List.mem_singleton]
              exact ⟨.inl, fun z => z.elim id fun e => by rw [e]; exact mem_sq.mpr ⟨hxR, hyR⟩⟩) fun _ _ => rfl⟩
          cases ho : g2 x y with
          | none =>
            rw [ho] at fw
            refine s_if (b := true) (et_is (et_or (b := true) (et_test (ev_isNone (v := .non) (ev_var rfl))) fun z => nomatch z) rfl) (fun _ H14 e14 => ?_) (fun z => nomatch z)
            refine put H14 _ _ (t13.more e14) fun H15 t15 tk15 => ?_
            rw [fw]
            exact ⟨(tk13.trans (Tk.ex e14)).trans tk15, t15, _, _, _, _, _, _, rfl⟩
          | some r =>
            rw [ho] at fw
            refine s_if (b := decide (pp + qq < r)) (et_is (et_or (et_test (ev_isNone (v := .int r) (ev_var rfl))) fun _ => et_test (ev_lt (ev_add (i := pp) (j := qq) (ev_var rfl) (ev_var rfl)) (ev_var rfl))) (by
              show (decide (V.int r = V.non) || decide (pp + qq < r)) = decide (pp + qq < r)
              simp)) (fun hb H14 e14 => ?_) (fun hb H14 e14 => ?_)
            · have fw' : NhM.fwS m x y g2 = NhM.putT g2 x y (some (pp + qq)) := fw.trans (if_pos (of_decide_eq_true hb))
              refine put H14 _ _ (t13.more e14) fun H15 t15 tk15 => ?_
              rw [fw']
              exact ⟨(tk13.trans (Tk.ex e14)).trans tk15, t15, _, _, _, _, _, _, rfl⟩
            · have fw' : NhM.fwS m x y g2 = g2 := fw.trans (if_neg (of_decide_eq_false hb))
              rw [fw']
              exact ⟨tk13.trans (Tk.ex e14), t13.more e14, _, _, _, _, _, _, rfl⟩
        · have fw : NhM.fwS m x y g2 = g2 := by
            unfold NhM.fwS
            cases h1 : g2 x m with
            | none => rfl
            | some pp =>
              cases h2 : g2 m y with
              | none => rfl
              | some qq => rw [h1, h2] at hb; cases hb
          rw [fw]
          exact ⟨tk11.trans (Tk.ex e12), t11.more e12, _, _, _, _, _, _, rfl⟩
      · rintro Hs3 i3 σ' H8 ⟨w1, w2, b, c, e, g, h, j, rfl⟩
        rw [List.take_length] at w2
        exact ⟨(tk7.trans (Tk.ex i3)).trans w1, w2, _, _, _, _, _, _, _, rfl⟩
    · rintro Hs2 i2 σ' H5 ⟨v1, v2, a, b, c, e, g, h, j, rfl⟩
      rw [List.take_length] at v2
      exact ⟨(tk4.trans (Tk.ex i2)).trans v1, v2, _, _, _, _, _, _, _, _, rfl⟩
  rintro Hs2 es2 σ' H4 ⟨_, ta4, a, b, c, e, f, g, h, j, rfl⟩
  rw [List.take_length] at ta4
  have ta4 : TabAt H H4 d (sq R) (NhM.table E' R) := ta4
  obtain ⟨kvs, hd4, tk4⟩ := ta4.t
  obtain ⟨ks, hks, knd, kmem⟩ := tk4.keys
  obtain ⟨ks', hks', klen⟩ := tk4.few h5 inR
  have klen : ks.length ≤ 25 := by
    have e1 := congrArg List.length hks
    have e2 := congrArg List.length hks'
    rw [List.length_map, List.length_map] at e1 e2
    omega
  refine q_asgP (P := fun v H' => ∃ cs : List (List Str), cs.Perm ks ∧ ND H4 ((cs.map (pairVal (NhM.table E' R))).map dOpt) v H') (evP_lcE (γ := List (List Str)) (φ := fun cs => cs.Perm ks) (ds := fun cs => cs.map dLot) ((evP_sortKeys (ev_var rfl) ⟨kvs, hd4, hks⟩ (by omega)).imp fun v H5 _ h => by
    obtain ⟨ks', h1, _, h3⟩ := h
    exact ⟨ks', h1, h3⟩) fun cs pm H5 te' e5 hte => ((lcY ((src_new hte).map' rfl) (by rw [pm.length_eq]; omega) (fun k => dOpt (pairVal (NhM.table E' R) k)) fun k hk x H6 e6 hx => ?_).imp fun v H6 _ h => ⟨cs, pm, ?_⟩)) fun sv H5 e5 hsv => ?_
  · obtain ⟨p, hp, rfl⟩ := (kmem k).mp (pm.mem_iff.mp hk)
    refine ⟨_, evG_name, rfl, ?_⟩
    have ev := ev_dgetT (td := tVar 2) (ty := tVar 12) (d := d) (k := [p.1, p.2]) (kvs := kvs) (v := optV (NhM.table E' R p.1 p.2)) (σ := [some u, some v, some (.ref d), a, b, c, e, f, g, h, j, none, some x]) (ev_var rfl) (EvP.var rfl hx) (e6 d _ (e5 d _ hd4)) (tk4.val p hp)
    exact EvP.den ev (den_opt _)
  · rw [List.map_map]
    obtain ⟨p, ys, rfl, h1, h2, h3⟩ := h
    exact ⟨p, ys, rfl, fresh_back e5 h1, h2, h3⟩
  obtain ⟨cs, pm, hsv⟩ := hsv
  obtain ⟨sp, ys, rfl, hs0, hs1, hsd⟩ := hsv
  have ey := den_opts hsd
  subst ey
  have x5 : Ex H H5 := ta4.ex.trans e5
  have least : ∀ {a b : Str}, a ∈ R → b ∈ R → NhM.Least E' R a b (NhM.table E' R a b) := fun ha hb => NhM.table_least (town_flat ok) (town_simple ok) ha hb
  have inCs : ∀ {a b : Str}, a ∈ R → b ∈ R → [a, b] ∈ cs := fun {a b} ha hb => pm.mem_iff.mpr ((kmem _).mpr ⟨(a, b), mem_sq.mpr ⟨ha, hb⟩, rfl⟩)
  have ofCs : ∀ k ∈ cs, ∃ a ∈ R, ∃ b ∈ R, k = [a, b] := fun k hk => by
    obtain ⟨p, hp, rfl⟩ := (kmem k).mp (pm.mem_iff.mp hk)
    exact ⟨p.1, (mem_sq.mp hp).1, p.2, (mem_sq.mp hp).2, rfl⟩
  refine s_retP (P := fun v H' => ∃ r, NhM.WidestSpec E' R r ∧ Den H' v (dOpt r)) (D := { nx := fun _ H' => Q .non H', rt := Q }) (evP_if (b := decide (none ∈ cs.map (pairVal (NhM.table E' R)))) (et_is (et_test (ev_op ev_c (ev_var rfl) (rv_isL (Evl.sq_of hs1) rfl (opts_flat _)))) (opts_in _)) (fun hb => ?_) fun hb => ?_) fun w H6 e6 hw => q w H6 (x5.trans e6) hw
  · have hb := of_decide_eq_true hb
    obtain ⟨k, hk, ev⟩ := List.mem_map.mp hb
    obtain ⟨a, ha, b, hb', rfl⟩ := ofCs k hk
    have ev : NhM.table E' R a b = none := ev
    refine EvP.of ev_c fun H6 e6 => ⟨none, ⟨a, ha, b, hb', ?_⟩, .non⟩
    have := least ha hb'
    rw [ev] at this
    exact this
  · have hb := of_decide_eq_false hb
    obtain ⟨ns, hns⟩ := opts_some hb
    have mem : ∀ n, n ∈ ns ↔ ∃ a ∈ R, ∃ b ∈ R, NhM.table E' R a b = some n := fun n => by
      constructor
      · intro hn
        have : some n ∈ cs.map (pairVal (NhM.table E' R)) := by rw [hns]; exact List.mem_map.mpr ⟨n, hn, rfl⟩
        obtain ⟨k, hk, ev⟩ := List.mem_map.mp this
        obtain ⟨a, ha, b, hb', rfl⟩ := ofCs k hk
        exact ⟨a, ha, b, hb', ev⟩
      · rintro ⟨a, ha, b, hb', ev⟩
        have : some n ∈ cs.map (pairVal (NhM.table E' R)) := List.mem_map.mpr ⟨[a, b], inCs ha hb', ev⟩
        rw [hns] at this
        obtain ⟨x, hx, e⟩ := List.mem_map.mp this
        cases e
        exact hx
    have some_of : ∀ {a b : Str}, a ∈ R → b ∈ R → ∃ n, NhM.table E' R a b = some n := fun {a b} ha hb' => by
      cases ho : NhM.table E' R a b with
      | none => exact absurd (List.mem_map.mpr ⟨[a, b], inCs ha hb', ho⟩) hb
      | some n => exact ⟨n, rfl⟩
    have ens : (cs.map (pairVal (NhM.table E' R))).map optV = ns.map V.int := by rw [hns, List.map_map]; rfl
    rw [ens] at hs1
    have hlen : ns.length ≤ 25 := by
      have := congrArg List.length hns
      rw [List.length_map, List.length_map, pm.length_eq] at this
      omega
    refine ev_maxP (H0 := H5) (ns := 0 :: ns) (fun H6 e6 Q' q' => ?_) (by simp) |>.imp fun w H6 _ hw => ?_
    · refine ⟨show 1 ≤ sizeLine by decide, fun l hl => ?_⟩
      have el := Ex.new (o := .lst [.int 0]) hl
      refine ⟨.ref sp, rfl, ?_⟩
      refine ⟨l, sp, [.int 0], ns.map V.int, rfl, rfl, upd_same, el _ _ (e6 sp _ hs1), Evl.sz_of (by rw [List.length_map]; show 1 + _ ≤ _; omega), fun p hp => ?_⟩
      exact q' _ _ (el.trans (Ex.new hp)) ⟨p, _, rfl, fresh_back (e6.trans el) hp, upd_same, DenAll.ints (l := 0 :: ns).mpr rfl⟩
    · obtain ⟨m, rfl, hm, hle⟩ := hw
      refine ⟨some m, ⟨hle 0 List.mem_cons_self, fun x hx y hy => ?_, ?_⟩, .int m⟩
      · obtain ⟨n, hn⟩ := some_of hx hy
        have := least hx hy
        rw [hn] at this
        exact ⟨n, this, hle n (List.mem_cons_of_mem _ ((mem n).mpr ⟨x, hx, y, hy, hn⟩))⟩
      · rcases List.mem_cons.mp hm with h | h
        · exact .inl h
        · obtain ⟨x, hx, y, hy, hn⟩ := (mem m).mp h
          have := least hx hy
          rw [hn] at this
          exact .inr ⟨x, hx, y, hy, this⟩
abbrev st__law_play : Stmt := topS 53
theorem sc__law_play : FnScope ["_law_ground_here", "_law_lots_here", "_law_best", "_law_some", "_law_now"] ["_law_ground_here", "_law_lots_here"] (defScope st__law_play) := ⟨rfl, rfl, rfl, by decide +kernel, rfl, by decide +kernel, by decide +kernel⟩

def sp__law_play : Sp := fun vs H Q _ => ∃ (u : V) (a : Addr) (T : List Str) (E : List Wr) (F L : List (List Str)) (xs : List V), vs = [u, .ref a] ∧ Den H u (dTown T E) ∧ H a = some (.lst xs) ∧ DenAll H xs (L.map dLot) ∧ L.length ≤ 32 ∧ TownOk T E ∧ NhM.LotsOk F L ∧ (∀ v H', Ex H H' → (∃ r, NhM.PlaySpec T E F r ∧ Den H' v (dOpt r)) → Q v H')
theorem ok__law_play {f : Addr} {fd : FuncData} (D : Df K mg "_law_play" st__law_play ["_law_ground_here", "_law_lots_here"] f fd) (B : Bn mg) (c__law_rests : C8.Cal P w K mg base 1 "_law_rests" sp__law_rests []) (c__law_widest : C8.Cal P w K mg base 1 "_law_widest" sp__law_widest []) : C8.Cal P w K mg base 2 "_law_play" sp__law_play [] := by
  refine D.cal (D.F.ok (k := 1) sc__law_play (fun vs H Q E h => by obtain ⟨u, a, T, E, F, L, xs, rfl, _⟩ := h; rfl) (fun cdv A outer s H vs Q E hr h => ?_))
  obtain ⟨u, a, T, E', F, L, xs, rfl, hu, ha, hxs, hL, ok, hLo, q⟩ := h
  refine ⟨_, (pss_cons (ps_asg pe_int (pg_name (i := 2) sc__law_play.nd rfl (Or.inl rfl))) (pss_cons (ps_for PassesOwn.never rfl (pi_list (C8.pe_c c__law_rests hr (by decide) (by rfl) (pa_cons (pv 0) (pa_cons (pv 1) pa_nil)))) (pg_name (i := 3) sc__law_play.nd rfl (Or.inl rfl)) (pss_cons (ps_asg (C8.pe_c c__law_widest hr (by decide) (by rfl) (pa_cons (pv 0) (pa_cons (pv 3) pa_nil))) (pg_name (i := 4) sc__law_play.nd rfl (Or.inl rfl))) (pss_cons (ps_if (pt_cmpR op_isN (pv 4) pe_non (nomark _)) (pss_one (ps_ret pe_non)) pss_nil) (pss_one (ps_asg (pe_callB (call_max2 rfl) (by rfl) B.max (by decide +kernel) (pa_cons (pv 2) (pa_cons (pv 4) pa_nil))) (pg_name (i := 2) sc__law_play.nd rfl (Or.inl rfl))))))) (pss_one (ps_ret (pv 2))))), ?_⟩
  refine q_asg ev_c fun H1 e1 => ?_
  refine s_forE (D := { nx := _, rt := Q }) (γ := List (List Str)) (φ := fun Rs => NhM.RestsOk T L Rs ∧ (∀ k ∈ Rs, k.Sublist T) ∧ Rs.length ≤ 32) (ds := fun Rs => Rs.map dLot) (fun H2 e2 Q' q' => t_call2 (u := u) (v := .ref a) (ev_var rfl) (ev_var rfl) fun H4 e34 => ?_) fun Rs hR H2 te' e2 hte => ?_
  · have e14 := e2.trans e34
    refine ⟨u, a, T, E', L, xs, rfl, hu.ex (e1.trans e14), (e1.trans e14) a _ ha, hxs.ex (e1.trans e14), hL, ok.len, fun v H5 e5 hv => q' v H5 (e34.trans e5) ?_⟩
    obtain ⟨Rs, r1, r2, r3, p, ys, rfl, h1, h2, h3⟩ := hv
    exact ⟨Rs, ⟨r1, r2, r3⟩, p, ys, rfl, fresh_back e14 h1, h2, h3⟩
  obtain ⟨hRs, hsub, hlen⟩ := hR
  refine s_forS ((src_new hte).map' rfl) (fun H3 i σ' H' => Ex H3 H' ∧ (∃ b : Int, 0 ≤ b ∧ (∀ R ∈ Rs.take i, ∃ e, NhM.WidestSpec E' R (some e) ∧ e ≤ b) ∧ (b = 0 ∨ ∃ R ∈ Rs, NhM.WidestSpec E' R (some b)) ∧ ∃ c d, σ' = [some u, some (.ref a), some (.int b), c, d])) (fun H3 e3 => ⟨Ex.refl _, 0, Int.le_refl 0, fun R hR => by simp at hR, .inl rfl, _, _, rfl⟩) (fun _ _ _ _ _ p => p.1) ?_ ?_
  · rintro Hs es i R hi x σ' H0 H' ⟨r1, b, hb0, hb1, hb2, c, d, rfl⟩ e0 hx
    have hRm := List.mem_of_getElem? hi
    refine evG_name H' (Ex.refl _) _ fun H4 e4 => ?_
    have e04 := (((e1.trans e2).trans es).trans r1).trans (e0.trans e4)
    refine q_asgP (P := fun v H' => ∃ r, NhM.WidestSpec E' R r ∧ Den H' v (dOpt r)) (evP_callR (T, E', R) (EvP.of2 (EvP.var rfl (hu.ex e04)) (EvP.var rfl (hx.ex e4))) ⟨ok, Nat.le_trans (hsub R hRm).length_le ok.len⟩ fun _ _ _ _ _ h => h) fun nv H5 e5 hnv => ?_
    obtain ⟨r, hr', hd⟩ := hnv
    refine s_if (et_is (et_test (ev_isNoneP (EvP.var rfl hd))) (isNone_opt r)) (fun hc H6 e6 => ?_) fun hc H6 e6 => ?_
    · cases hro : r with
      | some d => rw [hro] at hc; cases hc
      | none =>
        rw [hro] at hr'
        exact s_ret ev_c fun H7 e7 => q _ H7 (((e04.trans e5).trans e6).trans e7) ⟨none, NhM.law_none hLo hRs hRm hr', .non⟩
    · cases hro : r with
      | none => rw [hro] at hc; cases hc
      | some e =>
        rw [hro] at hr' hd
        cases hd
        refine s_asgP (i := 2) (P := fun v _ => v = .int (if e > b then e else b)) (EvP.of (ev_max2 (i := b) (j := e) (ev_var rfl) (ev_var rfl)) fun _ _ => rfl) fun w H7 e7 hw => ?_
        subst hw
        refine ⟨((r1.trans e0).trans e4).trans ((e5.trans e6).trans e7), (if e > b then e else b), ?_, ?_, ?_, _, _, rfl⟩
        · split <;> omega
        · refine take_all (fun R' hR' => ?_) hi ⟨e, hr', by split <;> omega⟩
          obtain ⟨e', h1, h2⟩ := hb1 R' hR'
          exact ⟨e', h1, by split <;> omega⟩
        · split
          · exact .inr ⟨R, hRm, hr'⟩
          · exact hb2
  · rintro Hs es σ' H' ⟨r1, b, hb0, hb1, hb2, c, d, rfl⟩
    rw [List.take_length] at hb1
    exact s_ret (σ := [some u, some (.ref a), some (.int b), c, d]) (D := { nx := fun _ H' => Q .non H', rt := Q }) (ev_var rfl) fun H5 e5 => q _ H5 ((((e1.trans e2).trans es).trans r1).trans e5) ⟨some b, NhM.law_some hLo hRs hb0 hb1 hb2, .int b⟩
end
end Nh

namespace Nh
open PySem PySem.Spec PyProof.Rows L2 Evl
section
variable {P : Program} {w : World} {K : PySem.W.Frag} {mg : Str → Option Value} {base : Heap}

theorem room65 {d : PyData} {A : Around} (h : SeqAt.shaped d = true) (hu : A.units + 65 < cLine) : A.units + 1 + d.depth < cLine := by
  have h1 := SeqAt.depth_of_shaped h
  omega
/-- x not in t, t a tuple of data -/
def rNotInDT (K : PySem.W.Frag) : R2 := fun x y H Q => ∃ d ds, Dp K H x d ∧ Dp K H y (.tuple ds) ∧ SeqAt.shaped d = true ∧ SeqAt.shaped (.tuple ds) = true ∧ Q (.bl (!ds.any fun z => PyData.eqv z d)) H
theorem op_notInDT {X : Cx} (hu : X.A.units + 65 < cLine) : OpR X (compareOp .NotIn) (rNotInDT X.K) := by
  intro pins s σ H x y v u Q I rx ry h
  obtain ⟨d, ds, hx, hy, sx, sy, q⟩ := h
  obtain ⟨as, r1⟩ := Dp.reads I d x v hx rx
  obtain ⟨bs, r2⟩ := Dp.reads I (.tuple ds) y u hy ry
  exact SeqAt.notIn_tuple_reads r2 r1 (SeqAt.canLay_of_shaped sy) (SeqAt.canLay_of_shaped sx) (room_in_shaped sx hu) ⟨.bl _, H, I, rfl, q⟩
/-- dict([(lot, True), ..]) -/
def rDictT (K : PySem.W.Frag) : List V → Hp → VK → Prop := fun xs H Q => ∃ (a : Addr) (ps : List (Addr × Addr × List Str)), xs = [V.ref a] ∧ SqL K H a (ps.map fun p => V.ref p.1) ∧ (∀ p ∈ ps, H p.1 = some (.tup [.ref p.2.1, .bl true]) ∧ H p.2.1 = some (.tup (p.2.2.map V.str))) ∧ ps.length ≤ 1000 ∧
  ∀ (d : Addr) (kvs : List (List Key × V)) (ks : List (List Str)), H d = none → kvs.map (·.1) = ks.map sk → (∀ k, k ∈ ks ↔ k ∈ ps.map fun p => p.2.2) → Q (.ref d) (upd H d (.dT kvs))
def DictT (P : Program) (w : World) (K : PySem.W.Frag) : Prop := ∀ X : Cx, X.calm = true → X.prog = P → X.w = w → X.K = K → X.A.units + 64 < cLine → CallR X (.type "dict") (rDictT K)
abbrev Rw := NhM.Row Str
def dRow (r : Rw) : PyData := .tuple [dLot r.1, dLot r.2.1, dLot r.2.2]
theorem eqv_lots (a b : List Str) : PyData.eqv (dLot a) (dLot b) = decide (a = b) := eqv_strs a b
theorem shaped_lot {l : List Str} (h : ∀ x ∈ l, PyData.strOk x = true) : PyData.canLay0 (dLot l) = true ∧ PyData.depth (dLot l) ≤ 1 := by
  constructor
  · show PyData.canLayAll0 (l.map .str) = true
    induction l with
    | nil => rfl
    | cons x l ih =>
      show (PyData.strOk x && PyData.canLayAll0 (l.map .str)) = true
      rw [ih fun y hy => h y (List.mem_cons_of_mem _ hy), h x List.mem_cons_self]
      rfl
  · show PyData.depthAll (l.map .str) + 1 ≤ 1
    have h2 : ∀ l : List Str, PyData.depthAll (l.map .str) = 0 := fun l => by
      induction l with
      | nil => rfl
      | cons x l ih => show max 0 (PyData.depthAll (l.map .str)) = 0; rw [ih]; rfl
    rw [h2]
    omega
theorem shaped_lots {ls : List (List Str)} (h : ∀ l ∈ ls, ∀ x ∈ l, PyData.strOk x = true) : PyData.canLayAll0 (ls.map dLot) = true ∧ PyData.depthAll (ls.map dLot) ≤ 1 := by
  induction ls with
  | nil => exact ⟨rfl, Nat.zero_le _⟩
  | cons l ls ih =>
    obtain ⟨h1, h2⟩ := ih fun m hm => h m (List.mem_cons_of_mem _ hm)
    obtain ⟨h3, h4⟩ := shaped_lot (h l List.mem_cons_self)
    constructor
    · show (PyData.canLay0 (dLot l) && PyData.canLayAll0 (ls.map dLot)) = true
      rw [h1, h3]
      rfl
    · show max (PyData.depth (dLot l)) (PyData.depthAll (ls.map dLot)) ≤ 1
      exact Nat.max_le.mpr ⟨h4, h2⟩
theorem shaped_of_lots {ls : List (List Str)} (h : ∀ l ∈ ls, ∀ x ∈ l, PyData.strOk x = true) : SeqAt.shaped (.list (ls.map dLot)) = true ∧ SeqAt.shaped (.tuple (ls.map dLot)) = true := by
  obtain ⟨h1, h2⟩ := shaped_lots h
  constructor
  · show (PyData.canLayAll0 (ls.map dLot) && decide (PyData.depthAll (ls.map dLot) + 1 ≤ 64)) = true
    rw [h1, decide_eq_true (by omega)]
    rfl
  · show (PyData.canLayAll0 (ls.map dLot) && decide (PyData.depthAll (ls.map dLot) + 1 ≤ 64)) = true
    rw [h1, decide_eq_true (by omega)]
    rfl
/-- () not in row -/
theorem et_noEmpty {K : PySem.W.Frag} {σ : L2.St} {H : Hp} {ta tb : TE} {r : Rw} (h : EvP ta σ H (Da (dLot []))) (h' : EvP tb σ H (Da (dRow r))) (ok : ∀ l ∈ [r.1, r.2.1, r.2.2], ∀ x ∈ l, PyData.strOk x = true) : EvT (tTest (tOp (rNotInDT K) ta tb)) σ H (decide (r.1 ≠ [] ∧ r.2.1 ≠ [] ∧ r.2.2 ≠ [])) := fun H1 e Q q =>
  h H1 e _ fun v H2 e2 pv => h' H2 (e.trans e2) _ fun w H3 e3 pw => by
    have hs := (shaped_of_lots ok).2
    have pv' : Den H2 v (dLot []) := pv
    have pw' : Den H3 w (dRow r) := pw
    refine ⟨dLot [], [r.1, r.2.1, r.2.2].map dLot, (pv'.ex e3).dp _ _, pw'.dp _ _, rfl, hs, _, rfl, ?_⟩
    have e : (!([r.1, r.2.1, r.2.2].map dLot).any fun z => PyData.eqv z (dLot [])) = decide (r.1 ≠ [] ∧ r.2.1 ≠ [] ∧ r.2.2 ≠ []) := by
      show (!(PyData.eqv (dLot r.1) (dLot []) || (PyData.eqv (dLot r.2.1) (dLot []) || (PyData.eqv (dLot r.2.2) (dLot []) || false)))) = _
      rw [eqv_lots, eqv_lots, eqv_lots]
      by_cases a : r.1 = [] <;> by_cases b : r.2.1 = [] <;> by_cases c : r.2.2 = [] <;> simp [a, b, c]
    rw [e]
    exact q H3 (e2.trans e3)
/-- [..] == [] of a new list of lots -/
theorem et_noLots {K : PySem.W.Frag} {σ : L2.St} {H H0 : Hp} {ta tb : TE} {ls : List (List Str)} (h : EvP ta σ H (ND H0 (ls.map dLot))) (h' : EvL tb σ H []) (ok : ∀ l ∈ ls, ∀ x ∈ l, PyData.strOk x = true) : EvT (tTest (tOp (rEqD K) ta tb)) σ H (decide (ls = [])) := fun H1 e Q q =>
  h H1 e _ fun v H2 e2 pv => h' H2 (e.trans e2) _ fun l H3 _ e3 hl => by
    obtain ⟨p, ys, rfl, _, hp, hd⟩ := pv
    refine ⟨.list (ls.map dLot), .list [], .lst (Evl.sq_of (e3 p _ hp)) (DenAll.dp _ _ (hd.ex e3)), .lst (Evl.sq_of hl) .nil, (shaped_of_lots ok).1, rfl, _, rfl, ?_⟩
    have e : PyData.eqv (.list (ls.map dLot)) (.list []) = decide (ls = []) := by
      cases ls with
      | nil => rfl
      | cons l ls => rfl
    rw [e]
    exact q H3 (e2.trans e3)
theorem evG_trip {K : PySem.W.Frag} {σ : L2.St} {H : Hp} {a : Addr} {i j m : Nat} {u v x : V} (h : H a = some (.tup [u, v, x])) : EvG (gTup K 3 (gCons (gName i) (gCons (gName j) (gCons (gName m) gNil)))) (.ref a) σ H (((σ.set i (some u)).set j (some v)).set m (some x)) := fun H1 e _ q =>
  ⟨a, _, rfl, Evl.st_of (e a _ h), rfl, u, _, rfl, v, _, rfl, x, [], rfl, rfl, q H1 (Ex.refl H1)⟩
theorem et_notInT {σ : L2.St} {H : Hp} {ta tb : TE} {l : List Str} {d : Addr} {ks : List (List Str)} (h : EvP ta σ H (Da (dLot l))) (hb : Ev tb σ H (.ref d)) (hk : KnownAt H d ks) : EvT (tB (tDNotIn ta tb)) σ H (!decide (l ∈ ks)) := fun H1 e Q q =>
  h H1 e _ fun v H2 e2 pv => hb H2 (e.trans e2) _ fun H3 e3 => by
    obtain ⟨a, rfl, ha⟩ := den_lot.mp pv
    obtain ⟨kvs, h1, h2⟩ := hk
    refine ⟨d, _, rfl, DGet.t (k := sk l) ((e.trans (e2.trans e3)) d _ h1) (by rw [e3 a _ ha, List.map_map]; rfl), _, rfl, ?_⟩
    have e : (valV kvs (sk l)).isSome = decide (l ∈ ks) := by
      rw [valT_isSome]
      refine decide_eq_decide.mpr ?_
      rw [h2, List.mem_map]
      exact ⟨fun ⟨x, hx, e⟩ => by rw [← sk_inj e]; exact hx, fun hk => ⟨l, hk, rfl⟩⟩
    rw [e]
    exact q H3 (e2.trans e3)
theorem q_asgTup2 {K : PySem.W.Frag} {σ : L2.St} {H : Hp} {ta tb : TE} {tz : TS} {D : Ends} {i j : Nat} {P1 P2 : PP} (h : EvP ta σ H P1) (h' : EvP tb σ H P2) (k : ∀ x y H1 H2 H3, Ex H H1 → P1 x H1 → Ex H1 H2 → P2 y H2 → Ex H2 H3 → tz D ((σ.set i (some x)).set j (some y)) H3) : tSeq (tAsg (tTup (tCons ta (tCons tb tNil))) (gTup K 2 (gCons (gName i) (gCons (gName j) gNil)))) tz D σ H :=
  h H (Ex.refl H) _ fun x H1 e1 p1 => h' H1 e1 _ fun y H2 e2 p2 => ⟨show 2 ≤ sizeLine by decide, fun t ht => ⟨t, [x, y], rfl, Evl.st_of upd_same, rfl, x, [y], rfl, y, [], rfl, rfl, k x y H1 H2 _ e1 p1 e2 p2 (Ex.new ht)⟩⟩
theorem lotPairs_of {H : Hp} : ∀ {L : List (List Str)} {vs : List V}, DenAll H vs (L.map fun l => .tuple [dLot l, .bool true]) → ∃ ps : List (Addr × Addr × List Str), vs = ps.map (fun p => V.ref p.1) ∧ ps.map (fun p => p.2.2) = L ∧ ∀ p ∈ ps, H p.1 = some (.tup [.ref p.2.1, .bl true]) ∧ H p.2.1 = some (.tup (p.2.2.map V.str))
  | [], _, h => by cases h; exact ⟨[], rfl, rfl, fun p hp => nomatch hp⟩
  | l :: L, _, h => by
    cases h with
    | cons h1 h2 =>
      obtain ⟨ps, e1, e2, e3⟩ := lotPairs_of h2
      obtain ⟨a, xs, rfl, ha, hd⟩ := Den.tuple h1
      obtain ⟨y, z, rfl, hy, hz⟩ := hd.two
      obtain ⟨b, rfl, hb⟩ := den_lot.mp hy
      cases hz
      refine ⟨(a, b, l) :: ps, by rw [e1]; rfl, by rw [← e2]; rfl, fun p hp => ?_⟩
      rcases List.mem_cons.mp hp with rfl | hp
      · exact ⟨ha, hb⟩
      · exact e3 p hp
theorem evP_dictT {K : PySem.W.Frag} {σ : L2.St} {H H0 : Hp} {te : TE} {L : List (List Str)} (h : EvP te σ H (ND H0 (L.map fun l => .tuple [dLot l, .bool true]))) (hl : L.length ≤ 1000) : EvP (tCB (rDictT K) (tCons te tNil)) σ H (fun v H' => ∃ d ks, v = .ref d ∧ H d = none ∧ KnownAt H' d ks ∧ ∀ k, k ∈ ks ↔ k ∈ L) := fun H1 e Q q =>
  h H1 e _ fun v H2 e2 hv => by
    obtain ⟨p, ys, rfl, _, hp, hd⟩ := hv
    obtain ⟨ps, rfl, rfl, at2⟩ := lotPairs_of hd
    rw [List.length_map] at hl
    exact ⟨p, ps, rfl, Evl.sq_of hp, at2, hl, fun d kvs ks hd0 hk hm => q _ _ (e2.trans (Ex.new hd0)) ⟨d, ks, rfl, fresh_back (e.trans e2) hd0, ⟨kvs, upd_same, hk⟩, hm⟩⟩
/-- a new list's copy -/
theorem evP_listOf {K : PySem.W.Frag} {σ : L2.St} {H : Hp} {te : TE} {l : Addr} {xs : List V} {ds : List PyData} (h : Ev te σ H (.ref l)) (hl : H l = some (.lst xs)) (hd : DenAll H xs ds) : EvP (tCB (rListS K) (tCons te tNil)) σ H (ND H ds) := fun H1 e Q q =>
  h H1 e _ fun H2 e2 => ⟨l, xs, rfl, .inl (Evl.sq_of ((e.trans e2) l _ hl)), fun p hp => q _ _ (e2.trans (Ex.new hp)) ⟨p, xs, rfl, fresh_back (e.trans e2) hp, upd_same, (hd.ex (e.trans e2)).ex (Ex.new hp)⟩⟩
theorem row_at {H : Hp} {x : V} {rs : List Rw} {i : Nat} {d : PyData} (hi : (rs.map dRow)[i]? = some d) (hx : Den H x d) : ∃ r, rs[i]? = some r ∧ ∃ t u v z, x = .ref t ∧ H t = some (.tup [u, v, z]) ∧ Den H u (dLot r.1) ∧ Den H v (dLot r.2.1) ∧ Den H z (dLot r.2.2) := by
  rw [List.getElem?_map] at hi
  cases hc : rs[i]? with
  | none => rw [hc] at hi; cases hi
  | some r =>
    rw [hc] at hi
    cases hi
    obtain ⟨t, xs, rfl, ht, hd⟩ := Den.tuple hx
    obtain ⟨u, v, z, rfl, hu, hv, hz⟩ := hd.three
    exact ⟨r, rfl, t, u, v, z, rfl, ht, hu, hv, hz⟩
theorem rows_part (T : List Str) : ∀ r ∈ NhM.rowsOf T, r.1.length ≤ T.length ∧ r.2.1.length ≤ T.length ∧ r.2.2.length ≤ T.length := by
  have key : ∀ (T : List Str) (rows : List Rw) (m : Nat), (∀ r ∈ rows, r.1.length ≤ m ∧ r.2.1.length ≤ m ∧ r.2.2.length ≤ m) → ∀ r ∈ T.foldl NhM.rowsF rows, r.1.length ≤ m + T.length ∧ r.2.1.length ≤ m + T.length ∧ r.2.2.length ≤ m + T.length := by
    intro T
    induction T with
    | nil => intro rows m h; exact h
    | cons t T ih =>
      intro rows m h r hr
      have := ih (NhM.rowsF rows t) (m + 1) (fun r hr => by
        obtain ⟨q, hq, hr⟩ := List.mem_flatMap.mp hr
        obtain ⟨h1, h2, h3⟩ := h q hq
        unfold NhM.rowT at hr
        simp only [List.mem_cons, List.not_mem_nil, or_false] at hr
        rcases hr with rfl | rfl | rfl <;> simp <;> omega) r hr
      rw [List.length_cons]
      omega
  intro r hr
  have := key T _ 0 (fun r hr => by rw [List.mem_singleton.mp hr]; exact ⟨Nat.zero_le _, Nat.zero_le _, Nat.zero_le _⟩) r hr
  omega
theorem src_P_lotT {K : PySem.W.Frag} {σ : L2.St} {H : Hp} {te : TE} {l : List Str} (h : EvP te σ H (Da (dLot l))) : SrcT (iTup K te) σ H l (fun s x _ => x = .str s) := srcT_lot h
theorem rows_snoc (T : List Str) (i : Nat) (t : Str) (h : T[i]? = some t) : NhM.rowsOf (T.take (i + 1)) = NhM.rowsF (NhM.rowsOf (T.take i)) t := by
  unfold NhM.rowsOf
  rw [List.take_add_one, h, Option.toList_some, List.foldl_append]
  rfl
theorem rows_len (T : List Str) : (NhM.rowsOf T).length = 3 ^ T.length := by
  induction h : T.length generalizing T with
  | zero => rw [List.length_eq_zero_iff.mp h]; rfl
  | succ n ih =>
    obtain ⟨r, x, rfl⟩ : ∃ r x, T = r ++ [x] := ⟨T.dropLast, T.getLast (List.ne_nil_of_length_pos (by omega)), (List.dropLast_concat_getLast _).symm⟩
    rw [List.length_append] at h
    have h : r.length = n := by simpa using h
    have e : NhM.rowsOf (r ++ [x]) = NhM.rowsF (NhM.rowsOf r) x := by unfold NhM.rowsOf; rw [List.foldl_append]; rfl
    have l : ∀ rows : List Rw, (NhM.rowsF rows x).length = rows.length * 3 := fun rows => by
      unfold NhM.rowsF
      induction rows with
      | nil => rfl
      | cons r rows ih => rw [List.flatMap_cons, List.length_append, ih, List.length_cons]; show 3 + _ = _; omega
    rw [e, l, ih r h, Nat.pow_succ]
theorem rows_ok {T : List Str} (ok : ∀ x ∈ T, PyData.strOk x = true) : ∀ r ∈ NhM.rowsOf T, ∀ l ∈ [r.1, r.2.1, r.2.2], ∀ x ∈ l, PyData.strOk x = true := by
  have key : ∀ (T : List Str) (rows : List Rw), (∀ x ∈ T, PyData.strOk x = true) → (∀ r ∈ rows, ∀ l ∈ [r.1, r.2.1, r.2.2], ∀ x ∈ l, PyData.strOk x = true) → ∀ r ∈ T.foldl NhM.rowsF rows, ∀ l ∈ [r.1, r.2.1, r.2.2], ∀ x ∈ l, PyData.strOk x = true := by
    intro T
    induction T with
    | nil => intro rows _ h; exact h
    | cons t T ih =>
      intro rows ht h
      refine ih (NhM.rowsF rows t) (fun x hx => ht x (List.mem_cons_of_mem _ hx)) fun r hr => ?_
      obtain ⟨q, hq, hr⟩ := List.mem_flatMap.mp hr
      have hq' := h q hq
      have h1 := hq' q.1 (by simp)
      have h2 := hq' q.2.1 (by simp)
      have h3 := hq' q.2.2 (by simp)
      have ht' := ht t List.mem_cons_self
      have app : ∀ l : List Str, (∀ x ∈ l, PyData.strOk x = true) → ∀ x ∈ l ++ [t], PyData.strOk x = true := fun l hl x hx => by
        rcases List.mem_append.mp hx with hx | hx
        · exact hl x hx
        · rw [List.mem_singleton.mp hx]; exact ht'
      unfold NhM.rowT at hr
      simp only [List.mem_cons, List.not_mem_nil, or_false] at hr
      intro l hl
      rcases hr with rfl | rfl | rfl
      · simp only [List.mem_cons, List.not_mem_nil, or_false] at hl
        rcases hl with rfl | rfl | rfl
        · exact app _ h1
        · exact h2
        · exact h3
      · simp only [List.mem_cons, List.not_mem_nil, or_false] at hl
        rcases hl with rfl | rfl | rfl
        · exact h1
        · exact app _ h2
        · exact h3
      · simp only [List.mem_cons, List.not_mem_nil, or_false] at hl
        rcases hl with rfl | rfl | rfl
        · exact h1
        · exact h2
        · exact app _ h3
  exact key T _ ok fun r hr => by
    rw [List.mem_singleton.mp hr]
    intro l hl
    simp at hl
    subst hl
    intro x hx
    cases hx
abbrev st__law_parted : Stmt := topS 51
theorem sc__law_parted : FnScope ["_law_ground_here", "_law_lots_here", "_law_known", "_law_rows", "_law_lot", "_law_tower", "_law_late", "_law_a", "_law_b", "_law_c", "_law_row"] ["_law_ground_here", "_law_lots_here"] (defScope st__law_parted) := ⟨rfl, rfl, rfl, by decide +kernel, rfl, by decide +kernel, by decide +kernel⟩

def sp__law_parted : Sp := fun vs H Q _ => ∃ (u : V) (a : Addr) (T : List Str) (E : List Wr) (L : List (List Str)) (xs : List V), vs = [u, .ref a] ∧ Den H u (dTown T E) ∧ H a = some (.lst xs) ∧ DenAll H xs (L.map dLot) ∧ L.length ≤ 32 ∧ TownOk T E ∧
  (∀ v H', Ex H H' → (∃ rs : List Rw, (rs = [] ↔ ¬ ∃ r ∈ NhM.rowsOf T, NhM.RowGood L r) ∧ rs.length ≤ 243 ∧ (∀ r ∈ rs, r ∈ NhM.rowsOf T) ∧ ND H (rs.map dRow) v H') → Q v H')
theorem ok__law_parted {f : Addr} {fd : FuncData} (D : Df K mg "_law_parted" st__law_parted ["_law_ground_here", "_law_lots_here"] f fd) (B : Bn mg) (DTR : DictT P w K) : C8.Cal P w K mg base 1 "_law_parted" sp__law_parted [] := by
  refine D.cal (D.F.ok (k := 0) sc__law_parted (fun vs H Q E h => by obtain ⟨u, a, T, E, L, xs, rfl, _⟩ := h; rfl) (fun cdv A outer s H vs Q E hr h => ?_))
  have hDT := DTR
  obtain ⟨u, a, T, E', L, xs, rfl, hu, ha, hxs, hL, ok, q⟩ := h
  have hu : Den H u (.tuple [dLot T, .tuple (E'.map dWire)]) := hu
  have h5 := ok.len
  refine ⟨_, (pss_cons (ps_asg (pe_tup (pa_cons (pe_callTy (hDT _ rfl rfl rfl rfl hr.units) (by rfl) B.dict (by decide +kernel) (pa_cons (pe_lc (own := [("_law_lot", 4)]) (g := (gName 4)) (tt := tYes) (te := (tTup (tCons (tVar 4) (tCons (tC (.bl true)) tNil)))) rfl sc__law_parted.nd (pi_list (pv 1)) (blkOk_by (N := ["_law_ground_here", "_law_lots_here", "_law_known", "_law_rows", "_law_lot", "_law_tower", "_law_late", "_law_a", "_law_b", "_law_c", "_law_row"]) (sc := defScope st__law_parted) (by decide +kernel)) (fun _ _ _ _ _ => (pg_name (i := 4) sc__law_parted.nd rfl (Or.inl rfl))) (fun _ _ _ _ _ => pts_nil) (fun _ _ _ _ _ => (pe_tup (pa_cons (pv 4) (pa_cons pe_bl pa_nil))))) pa_nil)) (pa_cons (pe_lst (pa_cons (pe_tup (pa_cons (pe_tup pa_nil) (pa_cons (pe_tup pa_nil) (pa_cons (pe_tup pa_nil) pa_nil)))) pa_nil)) pa_nil))) (pg_tup (n := 2) rfl (pgs_cons (pg_name (i := 2) sc__law_parted.nd rfl (Or.inr rfl)) (pgs_cons (pg_name (i := 3) sc__law_parted.nd rfl (Or.inl rfl)) pgs_nil)))) (pss_cons (ps_for PassesOwn.never rfl (pi_tup (pe_ix ix_tup (pv 0) pe_int (fun _ _ => rfl))) (pg_name (i := 5) sc__law_parted.nd rfl (Or.inl rfl)) (pss_cons (ps_asg (pe_lst pa_nil) (pg_name (i := 6) sc__law_parted.nd rfl (Or.inl rfl))) (pss_cons (ps_for PassesOwn.never rfl (pi_list (pe_callTy call_list_of (by rfl) B.list (by decide +kernel) (pa_cons (pv 3) pa_nil))) (pg_tup (n := 3) rfl (pgs_cons (pg_name (i := 7) sc__law_parted.nd rfl (Or.inl rfl)) (pgs_cons (pg_name (i := 8) sc__law_parted.nd rfl (Or.inl rfl)) (pgs_cons (pg_name (i := 9) sc__law_parted.nd rfl (Or.inl rfl)) pgs_nil)))) (pss_one (ps_expr (pe_bm PySem.F.plainAttrs_list PySem.F.slot_list_extend PySem.F.type_list_extend mt_extend (pv 6) (pa_cons (pe_lst (pa_cons (pe_tup (pa_cons (pe_op op_catA (pv 7) (pe_tup (pa_cons (pv 5) pa_nil))) (pa_cons (pv 8) (pa_cons (pv 9) pa_nil)))) (pa_cons (pe_tup (pa_cons (pv 7) (pa_cons (pe_op op_catA (pv 8) (pe_tup (pa_cons (pv 5) pa_nil))) (pa_cons (pv 9) pa_nil)))) (pa_cons (pe_tup (pa_cons (pv 7) (pa_cons (pv 8) (pa_cons (pe_op op_catA (pv 9) (pe_tup (pa_cons (pv 5) pa_nil))) pa_nil)))) pa_nil)))) pa_nil))))) (pss_one (ps_asg (pv 6) (pg_name (i := 3) sc__law_parted.nd rfl (Or.inl rfl))))))) (pss_cons (ps_setLc (i := 3) (own := [("_law_row", 10)]) (g := (gName 10)) (tt := (tTest (tOp (rNotInDT K) (tTup tNil) (tVar 10)))) (te := (tVar 10)) rfl sc__law_parted.nd rfl rfl (sw_true rfl rfl rfl (by decide +kernel)) (pi_list (pv 3)) (blkOk_by (N := ["_law_ground_here", "_law_lots_here", "_law_known", "_law_rows", "_law_lot", "_law_tower", "_law_late", "_law_a", "_law_b", "_law_c", "_law_row"]) (sc := defScope st__law_parted) (by decide +kernel)) (fun _ _ _ _ _ => (pg_name (i := 10) sc__law_parted.nd rfl (Or.inl rfl))) (fun _ _ _ _ _ => (pts_one (pt_cmpR (op_notInDT (units65 hr)) (pe_tup pa_nil) (pv 10) (by rfl)))) (fun _ _ _ _ _ => (pv 10))) (pss_one (ps_ret (pe_lc (own := [("_law_row", 10)]) (g := (gName 10)) (tt := (tTest (tOp (rEqD K) (tLc (iTup K (tVar 10)) (gName 4) (tB (tDNotIn (tVar 4) (tVar 2))) (tVar 4) [4]) (tLst tNil)))) (te := (tVar 10)) rfl sc__law_parted.nd (pi_list (pv 3)) (blkOk_by (N := ["_law_ground_here", "_law_lots_here", "_law_known", "_law_rows", "_law_lot", "_law_tower", "_law_late", "_law_a", "_law_b", "_law_c", "_law_row"]) (sc := defScope st__law_parted) (by decide +kernel)) (fun _ _ _ _ _ => (pg_name (i := 10) sc__law_parted.nd rfl (Or.inl rfl))) (fun _ _ _ _ _ => (pts_one (pt_cmpR (op_eqD (units64 hr)) (pe_lc (own := [("_law_lot", 4)]) (g := (gName 4)) (tt := (tB (tDNotIn (tVar 4) (tVar 2)))) (te := (tVar 4)) rfl sc__law_parted.nd (pi_tup (pv 10)) (blkOk_by (N := ["_law_ground_here", "_law_lots_here", "_law_known", "_law_rows", "_law_lot", "_law_tower", "_law_late", "_law_a", "_law_b", "_law_c", "_law_row"]) (sc := { kind := .function, names := [(".0", .local), ("_law_row", .local), ("_law_known", .cell)], isGenerator := false, isCoroutine := false }) (by decide +kernel)) (fun _ _ _ _ _ => (pg_name (i := 4) sc__law_parted.nd rfl (Or.inl rfl))) (fun _ _ _ _ _ => (pts_one (pt_cmp (pc_dnotin (hu_of hr) (pv 4) (pv 2))))) (fun _ _ _ _ _ => (pv 4))) (pe_lst pa_nil) (nomark _)))) (fun _ _ _ _ _ => (pv 10)))))))), ?_⟩
  refine q_asgTup2 (P1 := fun v H' => ∃ d ks, v = .ref d ∧ H d = none ∧ KnownAt H' d ks ∧ ∀ k, k ∈ ks ↔ k ∈ L) (P2 := ND H (([([], [], [])] : List Rw).map dRow)) (evP_dictT (H0 := H) (lcY ((src_list (ev_var rfl) ha hxs).map' rfl) (by omega) (fun l => .tuple [dLot l, .bool true]) fun l hl x H' e hx => ⟨_, evG_name, rfl, evP_tup (EvP.of2 (EvP.var rfl hx) (evP_of_bl ev_c)) (show 2 ≤ 100000 by decide)⟩) (by omega)) (evP_lst (ds := [dRow ([], [], [])]) (ead1 (evP_tup (ds := [dLot [], dLot [], dLot []]) (ead3 (evP_tup ead_nil (by decide)) (evP_tup ead_nil (by decide)) (evP_tup ead_nil (by decide))) (show 3 ≤ 100000 by decide))) (show 1 ≤ 100000 by decide)) fun dv rv H1 H2 H3 e1 hdv e2 hrv e3 => ?_
  obtain ⟨d, ks, rfl, d0, hk, hkm⟩ := hdv
  have e03 := (e1.trans e2).trans e3
  have hk3 := hk.ex (e2.trans e3)
  have hr3 := ND.mono e3 hrv
  obtain ⟨rp, ys, rfl, rp0, rp1, hys⟩ := hr3
  refine s_forT (D := { nx := _, rt := Q }) (src_P_lotT (evP_ix (i := 0) (EvP.var rfl (hu.ex e03)) ev_c rfl)) (fun Hs i σ' H' => Tk Hs H' ∧ (Ex H H' ∧ KnownAt H' d ks ∧ ∃ rp ys, H' rp = some (.lst ys) ∧ DenAll H' ys ((NhM.rowsOf (T.take i)).map dRow) ∧ ∃ b c e f g h, σ' = [some u, some (.ref a), some (.ref d), some (.ref rp), none, b, c, e, f, g, h])) (fun H4 e4 => ⟨Tk.refl _, e03.trans e4, hk3.ex e4, rp, ys, e4 rp _ rp1, hys.ex e4, _, _, _, _, _, _, rfl⟩) (fun _ _ _ _ _ p => p.1) ?_ ?_
  · rintro Hs es i t hi xv σ' H0 H' ⟨r1, r2, r3, rq, ys, r4, r5, b, c, e, f, g, h, rfl⟩ e0 rfl
    have hil := (List.getElem?_eq_some_iff.mp hi).1
    refine evG_name H' (Ex.refl _) _ fun H4 e4 => ?_
    have e04 := e0.trans e4
    have tk4 := r1.trans (Tk.ex e04)
    refine q_asgP (evP_lst ead_nil (by decide)) fun lv H5 e5 hlv => ?_
    obtain ⟨lp, zs, rfl, lp0, lp1, hzs⟩ := hlv
    have e05 := e04.trans e5
    have x5 := r2.trans e05
    have lpH : H lp = none := fresh_back (r2.trans e04) lp0
    have hrows : (NhM.rowsOf (T.take i)).length ≤ 81 := by
      rw [rows_len, List.length_take, Nat.min_eq_left (by omega)]
      exact Nat.pow_le_pow_right (n := 3) (i := i) (j := 4) (by decide) (by omega)
    have part := rows_part (T.take i)
    have stp := rows_snoc T i t hi
    generalize NhM.rowsOf (T.take i) = rows at r5 hrows part stp
    have ndl : d ≠ lp := fun z => by
      obtain ⟨kvs, h1, _⟩ := r3.ex e04
      rw [z, lp0] at h1; cases h1
    refine s_forR (D := { nx := _, rt := Q }) (srcD_new' (p := lp) (H0 := H5) (evP_listOf (ev_var rfl) (e05 rq _ r4) (r5.ex e05)) (by rw [lp1]; exact fun z => nomatch z) lp1 (fun xs z => nomatch z)) (fun Hs j σ' H' => Exd lp Hs H' ∧ (∃ ys, H' lp = some (.lst ys) ∧ DenAll H' ys (((rows.take j).flatMap (NhM.rowT t)).map dRow)) ∧ ∃ f g h k, σ' = [some u, some (.ref a), some (.ref d), some (.ref rq), none, some (.str t), some (.ref lp), f, g, h, k]) (fun H6 e6 => ⟨Exd.refl _ _, ⟨zs, e6 lp _ lp1, hzs.ex e6⟩, _, _, _, _, rfl⟩) (fun _ _ _ _ _ p => p.1) ?_ ?_
    · rintro Hs2 es2 j dr hj xr σ' H6 H7 ⟨v1, ⟨ws, v2, v3⟩, f, g, h, k, rfl⟩ e7 hr'
      obtain ⟨r, hrj, tt, y1, y2, y3, rfl, htt, hy1, hy2, hy3⟩ := row_at hj hr'
      obtain ⟨pl1, pl2, pl3⟩ := part r (List.mem_of_getElem? hrj)
      rw [List.length_take] at pl1 pl2 pl3
      refine evG_trip (σ := [some u, some (.ref a), some (.ref d), some (.ref rq), none, some (.str t), some (.ref lp), f, g, h, k]) htt H7 (Ex.refl _) _ fun H8 e8 => ?_
      have g1 := hy1.ex e8
      have g2 := hy2.ex e8
      have g3 := hy3.ex e8
      have e78 := e7.trans e8
      have tw : ∀ {te : TE} {l : List Str} {y : V} {n : Nat} {σx : L2.St}, σx[5]? = some (some (V.str t)) → σx[n]? = some (some y) → Den H8 y (dLot l) → l.length ≤ 5 → EvP (tOp (rCatA K) (tVar n) (tTup (tCons (tVar 5) tNil))) σx H8 (Da (dLot (l ++ [t]))) := fun {te l y n σx} h1 h2 h3 h4 => evP_catT (EvP.var h2 h3) (evP_tup (EvP.of1 (ev_var h1) (.str t)) (show 1 ≤ 100000 by decide)) (by have t1 : [t].length = 1 := rfl; omega)
      refine s_extP (l := lp) (xs := ws) (H0 := H8) (ds := (NhM.rowT t r).map dRow) (e78 lp _ v2) (ev_var rfl) (evP_lst (ds := [dRow (r.1 ++ [t], r.2.1, r.2.2), dRow (r.1, r.2.1 ++ [t], r.2.2), dRow (r.1, r.2.1, r.2.2 ++ [t])]) (ead3 (evP_tup (ds := [dLot (r.1 ++ [t]), dLot r.2.1, dLot r.2.2]) (ead3 (tw (te := tVar 0) rfl rfl g1 (by omega)) (EvP.var rfl g2) (EvP.var rfl g3)) (show 3 ≤ 100000 by decide)) (evP_tup (ds := [dLot r.1, dLot (r.2.1 ++ [t]), dLot r.2.2]) (ead3 (EvP.var rfl g1) (tw (te := tVar 0) rfl rfl g2 (by omega)) (EvP.var rfl g3)) (show 3 ≤ 100000 by decide)) (evP_tup (ds := [dLot r.1, dLot r.2.1, dLot (r.2.2 ++ [t])]) (ead3 (EvP.var rfl g1) (EvP.var rfl g2) (tw (te := tVar 0) rfl rfl g3 (by omega))) (show 3 ≤ 100000 by decide))) (show 3 ≤ 100000 by decide)) ?_ fun qs H9 e9 hqs => ?_
      · have hjl := (List.getElem?_eq_some_iff.mp hrj).1
        have l1 := len_flat (NhM.rowT t) 3 (rows.take j) fun _ _ => Nat.le_refl 3
        rw [List.length_take] at l1
        rw [v3.len, List.length_map]
        have l2 : ((NhM.rowT t r).map dRow).length = 3 := rfl
        omega
      · have e69 := e78.trans e9
        have tkl : Tk H9 (upd H9 lp (.lst (ws ++ qs))) := Tk.upd fun xs z => by rw [e69 lp _ v2] at z; cases z
        refine ⟨(v1.trans (Exd.ex e69)).trans (Exd.upd _), ⟨_, upd_same, ?_⟩, _, _, _, _, rfl⟩
        rw [take_flat _ hrj, List.map_append]
        exact ((v3.ex e69).append hqs).tk tkl _ _
    · rintro Hs2 es2 σ' H6 ⟨v1, ⟨ws, v2, v3⟩, f, g, h, k, rfl⟩
      rw [List.length_map, List.take_length] at v3
      have x6 : Ex H H6 := Ex.ofExd (x5.trans es2) v1 lpH
      refine s_asg (v := .ref lp) (ev_var rfl) fun H7 e7 => ⟨?_, x6.trans e7, ?_, lp, ws, e7 lp _ v2, ?_, _, _, _, _, _, _, rfl⟩
      · have nt2 : ∀ xs, Hs2 lp ≠ some (.tup xs) := fun xs z => by rw [es2 lp _ lp1] at z; cases z
        exact (((tk4.trans (Tk.ex e5)).trans (Tk.ex es2)).trans (v1.tk nt2)).trans (Tk.ex e7)
      · obtain ⟨kvs, h1, h2⟩ := r3
        exact ⟨kvs, e7 d _ (v1 d _ ndl (es2 d _ (e05 d _ h1))), h2⟩
      · rw [stp]
        exact v3.ex e7
  rintro Hs es σ' H4 ⟨_, x4, k4, rq, ys4, r4, r5, b, c, e, f, g, h, rfl⟩
  rw [List.take_length] at r5
  have sok : ∀ x ∈ T, PyData.strOk x = true := fun x hx => nm_ok (ok.nm x hx)
  have rok := rows_ok sok
  have hrows : (NhM.rowsOf T).length ≤ 243 := by
    rw [rows_len]
    exact Nat.pow_le_pow_right (n := 3) (i := T.length) (j := 5) (by decide) h5
  refine q_asgP (D := { nx := fun _ H' => Q .non H', rt := Q }) (lcL ((src_list (ev_var rfl) r4 r5).map' rfl) (by omega) (fun r => decide (r.1 ≠ [] ∧ r.2.1 ≠ [] ∧ r.2.2 ≠ [])) dRow fun r hr x H' e hx => ⟨_, evG_name, rfl, et_noEmpty (evP_tup ead_nil (by decide)) (EvP.var rfl hx) (rok r hr), fun _ => EvP.var rfl hx⟩) fun rv5 H5 e5 hrv5 => ?_
  obtain ⟨sp, ys5, rfl, sp0, sp1, hys5⟩ := hrv5
  have k5 := k4.ex e5
  refine s_retP (D := { nx := fun _ H' => Q .non H', rt := Q }) (lcL ((src_list (ev_var rfl) sp1 hys5).map' rfl) ?_ (fun r => decide (([r.1, r.2.1, r.2.2].filter fun l => !decide (l ∈ ks)) = [])) dRow fun r hr x H' e hx => ⟨_, evG_name, rfl, et_noLots (H0 := H') ?_ (el_lst (vs := []) ea_nil (by decide)) ?_, fun _ => EvP.var rfl hx⟩) fun w H6 e6 hw => ?_
  · exact Nat.le_trans (List.length_filter_le _ _) (by omega)
  · have hx' : Den H' x (.tuple (([r.1, r.2.1, r.2.2] : List (List Str)).map dLot)) := hx
    refine lcL ((src_tup' (EvP.var rfl hx')).map' rfl) (show 3 ≤ 40000 by decide) (fun l => !decide (l ∈ ks)) dLot fun l hl y H7 e7 hy => ⟨_, evG_name, rfl, et_notInT (EvP.var rfl hy) (ev_var rfl) (k5.ex (e.trans e7)), fun _ => EvP.var rfl hy⟩
  · intro l hl
    exact rok r (List.mem_filter.mp hr).1 l (List.mem_filter.mp hl).1
  · obtain ⟨p, zs, rfl, p0, p1, hzs⟩ := hw
    refine q _ H6 ((x4.trans e5).trans e6) ⟨_, ?_, ?_, fun r hr => (List.mem_filter.mp (List.mem_filter.mp hr).1).1, p, zs, rfl, fresh_back (x4.trans e5) p0, p1, hzs⟩
    · rw [List.filter_eq_nil_iff]
      constructor
      · rintro hn ⟨r, hr, n1, n2, n3, m1, m2, m3⟩
        refine hn r (List.mem_filter.mpr ⟨hr, decide_eq_true ⟨n1, n2, n3⟩⟩) (decide_eq_true ?_)
        rw [List.filter_eq_nil_iff]
        intro l hl
        simp only [List.mem_cons, List.not_mem_nil, or_false] at hl
        rcases hl with rfl | rfl | rfl
        · simp [(hkm _).mpr m1]
        · simp [(hkm _).mpr m2]
        · simp [(hkm _).mpr m3]
      · intro hn r hr hk
        obtain ⟨h1, h2⟩ := List.mem_filter.mp hr
        obtain ⟨n1, n2, n3⟩ := of_decide_eq_true h2
        have hk := List.filter_eq_nil_iff.mp (of_decide_eq_true hk)
        have m : ∀ l ∈ [r.1, r.2.1, r.2.2], l ∈ L := fun l hl => (hkm l).mp (by have := hk l hl; simpa using this)
        exact hn ⟨r, h1, n1, n2, n3, m _ (by simp), m _ (by simp), m _ (by simp)⟩
    · exact Nat.le_trans (List.length_filter_le _ _) (Nat.le_trans (List.length_filter_le _ _) hrows)
end
end Nh

/-! repr of data; a def that is called where no repr is under way -/
namespace Nh
open PySem PySem.Spec PyProof.Rows L2 Evl

section
mutual
theorem dp_ex {K : PySem.W.Frag} {H H' : Hp} (e : Ex H H') : ∀ (d : PyData) (v : V), Dp K H v d → Dp K H' v d
  | .none, _, h => by cases h; exact .non
  | .bool b, _, h => by cases h; exact .bl b
  | .int i, _, h => by cases h; exact .int i
  | .str x, _, h => by cases h; exact .str x
  | .list ds, _, h => by
    cases h with
    | lst h1 h2 => exact .lst (ex_l e h1) (dpAll_ex e ds _ h2)
  | .tuple ds, _, h => by
    cases h with
    | tup h1 h2 => exact .tup (ex_t e h1) (dpAll_ex e ds _ h2)
  | .dict _, _, h => by cases h
theorem dpAll_ex {K : PySem.W.Frag} {H H' : Hp} (e : Ex H H') : ∀ (ds : List PyData) (vs : List V), DpAll K H vs ds → DpAll K H' vs ds
  | [], _, h => by cases h; exact .nil
  | d :: ds, _, h => by
    cases h with
    | cons h1 h2 => exact .cons (dp_ex e d _ h1) (dpAll_ex e ds _ h2)
end
/-- data whose text is not too long -/
structure RepOk (d : PyData) : Prop where
  show_ : d.showable = true
  dict : d.hasDict = false
  depth : d.depth ≤ 20
  len : d.shown.length ≤ sizeLine
def rRepr (K : PySem.W.Frag) : List V → Hp → VK → Prop := fun xs H Q => ∃ (x : V) (d : PyData), xs = [x] ∧ Dp K H x d ∧ RepOk d ∧ Q (.str d.shown) H
theorem cr_repr {X : Cx} (hg : X.A.guards = some []) (hu : X.A.units + 64 < cLine) : CallR X (.builtin "repr") (rRepr X.K) := by
  intro pins s σ H xs us Q I r h
  obtain ⟨x, d, rfl, hd, ok, q⟩ := h
  obtain ⟨u, rfl, ru⟩ := vals1 r
  have ref : ∀ a, u = .ref a → Dp X.K H x d → wpAny (model X.prog X.w) X.A (call (.builtin "repr") [u]) (EP X pins σ Q) X.xe s := by
    rintro a rfl hd
    obtain ⟨as, rd⟩ := Dp.reads I d x _ hd ru
    have hdep := ok.depth
    refine PySem.repr_of_reads' (h₀ := s.heap) rd ok.show_ (PyData.noDict_hsm ok.dict) hg (by omega) (fun b o e => e) (fun h' t tk hk => ?_) ok.len
    exact ⟨.str d.shown, H, I.kept (t' := tk) hk, ⟨t, rfl⟩, q⟩
  cases hd with
  | non =>
    cases (show u = Value.none from ru)
    exact PySem.P.repr_of_none ⟨.str _, H, I.tok _, ⟨_, rfl⟩, q⟩
  | bl b =>
    cases (show u = Value.bool b from ru)
    exact PySem.P.repr_of_bool ⟨.str _, H, I.tok _, ⟨_, rfl⟩, q⟩
  | int i =>
    obtain ⟨t, rfl⟩ := (show ∃ t, u = Value.int i t from ru)
    exact PySem.P.repr_of_int (of_decide_eq_true ok.show_) ⟨.str _, H, I.tok _, ⟨_, rfl⟩, q⟩
  | str z =>
    obtain ⟨t, rfl⟩ := (show ∃ t, u = Value.str z t from ru)
    exact PySem.P.repr_of_str ⟨.str _, H, I.tok _, ⟨_, rfl⟩, q⟩ ok.len
  | @lst a xs ds h1 h2 => exact ref a ru (.lst h1 h2)
  | @tup a xs ds h1 h2 => exact ref a ru (.tup h1 h2)
/-- a def's promise, kept where no repr is under way -/
structure FnG (P : Program) (w : World) (K : PySem.W.Frag) (mg : Str → Option Value) (base : Heap) (k : Nat) (f : Addr) (fd : FuncData) (ps : List Str) (sp : Sp) : Prop where
  len : ∀ vs H Q E, sp vs H Q E → vs.length = ps.length
  go : ∀ (A : Around) (outer : List Env) (s : Shared) (H : Hp) (args : Args) (us : List Value) (vs : List V) (Q : VK) (E : XK), Room k A → A.guards = some [] → Env0 P w K mg base A outer s H → BindsTo s fd args (ps.zip us) → Vals vs us → sp vs H Q E →
    codeAny (model P w) A (.call (.ref f) args) (CR CX0 outer P w H s Q E) s
end
section
variable {P : Program} {w : World} {K : PySem.W.Frag} {mg : Str → Option Value} {base : Heap}
theorem okG {x qual : Str} {st : Stmt} {f : Addr} {fd : FuncData} {N ps : List Str} {k : Nat} {sp : Sp} (F : Fun K x qual st f fd) (S : FnScope N ps (defScope st)) (len : ∀ vs H Q E, sp vs H Q E → vs.length = ps.length)
    (body : ∀ (cdv : Value) (A : Around) (outer : List Env) (s : Shared) (H : Hp) (vs : List V) (Q : VK) (E : XK), Room k (A.deeper (envOfC qual (defScope st) s.heap.objs.size f cdv)) → A.guards = some [] → sp vs H Q E →
      ∃ t, PSs (cxOf CX0 P w K mg base N qual (defScope st) f cdv A outer s H E).nox (defBody st) t ∧ t { nx := fun _ H' => Q .non H', rt := Q } (start N vs) H) : FnG P w K mg base (k + 1) f fd ps sp := by
  obtain ⟨oc, od, kV, doc, pm, an, cdv, ct, osl, rfl, lk, hcd⟩ := F.ex
  constructor
  · exact len
  intro A outer s H args us vs Q E hr hg e0 hb r hsp
  have n1 : vs.length = ps.length := len _ _ _ _ hsp
  have old : ∀ b o, base.get? b = some o → s.heap.get? b = some o := fun b o e => (e0.bs b o e).1
  have kin : K.In s.heap := e0.mod.kin.keeps old
  have kinds : ∀ y ∈ ps.zip us, (defScope st).names.lookup y.1 = some .local ∨ ((defScope st).names.lookup y.1 = some .cell ∧ ((cellsFrom (s.heap.objs.size + 1) (defScope st).names []).lookup y.1).isSome = true) := by
    rintro ⟨m, v⟩ hy
    exact (S.par m (List.of_mem_zip hy).1).imp id fun c => ⟨c, PySem.W.cellsFrom_some _ _ _ (Or.inl c)⟩
  refine codeAny_call_function hr.depth (kin _ _ lk) rfl S.co S.gen rfl (PySem.W.codeRec_of kin hcd) (hb _ _ _ _ ?_)
  refine wpAny_newFunctionEnv_cells S.kind kinds ?_
  rintro env rfl s1 ic
  refine ⟨(e0.mod.nolimit.keeps old).keeps ic.toInCall.keep, codeAny_func ?_⟩
  obtain ⟨t, ht, hq⟩ := body cdv A outer s H vs Q E (hr.deeper _) hg hsp
  have I0 := inv_start (CX := CX0) (E := E) S hr.hd e0 n1 r ic
  refine wpAny_mono (ht.nox.run [] s1 (start N vs) H _ I0 hq) ?_ fun _ _ z => z
  intro fl s2 hs
  match fl, hs with
  | .ret u, ⟨v, _, H2, J, rv, k2⟩ => exact ⟨v, H2, J.os, J.bare, J.base, J.hok, rv, k2⟩
  | .next, ⟨_, H2, J, k2⟩ => exact ⟨.non, H2, J.os, J.bare, J.base, J.hok, rfl, k2⟩
  | .brk, ⟨_, _, _, z⟩ => exact z.elim
  | .cont, ⟨_, _, _, z⟩ => exact z.elim
/-- .. callable by its name -/
structure CalG (P : Program) (w : World) (K : PySem.W.Frag) (mg : Str → Option Value) (base : Heap) (k : Nat) (x : Str) (sp : Sp) : Prop where
  ex : ∃ (f : Addr) (fd : FuncData) (ps : List Str), FnG P w K mg base k f fd ps sp ∧ mg x = some (.ref f) ∧ PySem.W.keepIn K (.ref f) = true ∧ Binds K fd ps []
theorem Df.calG {x : Str} {st : Stmt} {ps : List Str} {f : Addr} {fd : FuncData} {k : Nat} {sp : Sp} (D : Df K mg x st ps f fd) (h : FnG P w K mg base k f fd ps sp) : CalG P w K mg base k x sp := ⟨⟨f, fd, ps, h, D.g, D.kp, D.b⟩⟩
end
section
variable {X : Cx} {k j : Nat} {x : Str} {sp : Sp} {p pos : Pos} {e : Expr} {es : List Expr} {t : TA}
theorem pe_cG (c : CalG X.prog X.w X.K X.mg X.base k x sp) (hr : Room j X.A) (hgd : X.A.guards = some []) (hk : k ≤ j) (hg : Gl X x) (ha : PA X (e :: es) t)
    (hdb : (x == ("__debug__" : Str)) = false := by decide) (he : starEach (e :: es) X.env = (false, eval e X.env) :: starEach es X.env := by rfl) (hpl : (backTo pos (starEach es X.env)).any (·.1) = false := by rfl) :
    PE X (.Call (.Name x p) (e :: es) [] pos) (tCall sp [] C8.E0 t) := by
  obtain ⟨f, fd, ps, G, hm, kp, b⟩ := c.ex
  constructor
  intro pins s σ H Q I h
  refine wpAny_Call_Name_kw (ld_glob I hg hm ?_ hdb)
  refine PySem.W.callWith_K (h₀ := X.base) I.ok.mod.kin kp (thn (ha.run pos pins s σ H _ I h) ?_) he hpl
  rintro us s1 ⟨vs, H1, I1, rv, q⟩
  refine ⟨I1.kIn, ?_⟩
  have q : sp (vs ++ []) H1 Q C8.E0 := q
  rw [List.append_nil] at q
  have n1 : us.length = ps.length := by rw [← rv.length]; exact G.len _ _ _ _ q
  have hb := b s1 us I1.kIn (by rw [List.append_nil]; exact n1)
  rw [List.append_nil] at hb
  refine wpAny_call (codeAny_mono (G.go X.A X.stack s1 H1 ⟨us, []⟩ us vs Q C8.E0 (hr.mono hk) hgd I1.env0 hb rv q) ?_)
  intro r s2 hq
  match r, hq with
  | .error ee, hq => exact pass0 pins σ H1 s1 ee s2 I1 hq
  | .ok (.ret u), hq => exact I1.after hq
  | .ok .next, hq => exact hq.elim
  | .ok .brk, hq => exact hq.elim
  | .ok .cont, hq => exact hq.elim
/-- f(k = v, ..), by keywords alone -/
theorem pe_callKO {CX : CXT} {f : Addr} {fd : FuncData} {ps ks : List Str} {E : XK} {kws : List Keyword} {tk : TA} {g : List Value → List Value → List Value} {gV : List V → List V → List V} (F : FnOk X.prog X.w X.K X.mg X.base CX k f fd ps sp) (hr : Room k X.A) (hg : Gl X x) (hm : X.mg x = some (.ref f)) (hk : PySem.W.keepIn X.K (.ref f) = true) (hb : KBinds X.K fd ps ks g gV) (hx : Passes CX X E)
    (hkw : PK X kws tk) (hall : (backToKw pos (keywordEach kws X.env)).all (·.1.isSome) = true := by rfl) (hks : (backToKw pos (keywordEach kws X.env)).filterMap (·.1) = ks := by rfl)
    (hdb : (x == ("__debug__" : Str)) = false := by decide) (hpl : ((backTo pos (starEach [] X.env)).any (·.1) || (backToKw pos (keywordEach kws X.env)).any (·.1.isNone)) = false := by rfl) :
    PE X (.Call (.Name x p) [] kws pos) (tCallK sp gV E tNil tk) := by
  constructor
  intro pins s σ H Q I h
  refine wpAny_Call_Name_kw (ld_glob I hg hm ?_ hdb)
  refine PySem.W.callWith_KW0 (h₀ := X.base) I.ok.mod.kin hk hall (thn (hkw.run pos pins s σ H _ I h) ?_) hpl
  rintro ws s2 ⟨zs, H2, I2, rz, q2⟩
  refine ⟨I2.kIn, ?_⟩
  rw [hks]
  exact run_fnk F hr hb hx I2 .nil rz q2
end
end Nh

namespace Nh
open PySem PySem.Spec PyProof.Rows L2 Evl
section
variable {P : Program} {w : World} {K : PySem.W.Frag} {mg : Str → Option Value} {base : Heap}

/-- two keywords against the parameters' order -/
def swap2 {α : Type} : List α → List α → List α
  | [], [a, b] => [b, a]
  | _, _ => []
theorem swap2_len {α : Type} {us ws : List α} (h : (swap2 us ws).length = 2) : us = [] ∧ ∃ a b, ws = [a, b] := by
  match us, ws, h with
  | [], [a, b], _ => exact ⟨rfl, a, b, rfl⟩
  | [], [], h => cases h
  | [], [_], h => cases h
  | [], _ :: _ :: _ :: _, h => cases h
  | _ :: _, _, h => cases h
structure CalK (P : Program) (w : World) (K : PySem.W.Frag) (mg : Str → Option Value) (base : Heap) (k : Nat) (x : Str) (sp : Sp) (ks : List Str) : Prop where
  ex : ∃ (f : Addr) (fd : FuncData) (ps : List Str), FnOk P w K mg base CX0 k f fd ps sp ∧ mg x = some (.ref f) ∧ PySem.W.keepIn K (.ref f) = true ∧ KBinds K fd ps ks swap2 swap2
theorem vals_swap {vs : List V} {us : List Value} {zs : List V} {ws : List Value} (h : Vals vs us) (h' : Vals zs ws) : Vals (swap2 vs zs) (swap2 us ws) := by
  cases h with
  | cons a b => exact .nil
  | nil =>
    cases h' with
    | nil => exact .nil
    | cons a b =>
      cases b with
      | nil => exact .nil
      | cons c d =>
        cases d with
        | nil => exact .cons c (.cons a .nil)
        | cons e f => exact .nil
theorem pe_cK {X : Cx} {k j : Nat} {x : Str} {sp : Sp} {p pos : Pos} {ks : List Str} {kws : List Keyword} {tk : TA} (c : CalK X.prog X.w X.K X.mg X.base k x sp ks) (hr : Room j X.A) (hk : k ≤ j) (hg : Gl X x)
    (hkw : PK X kws tk) (hall : (backToKw pos (keywordEach kws X.env)).all (·.1.isSome) = true := by rfl) (hks : (backToKw pos (keywordEach kws X.env)).filterMap (·.1) = ks := by rfl)
    (hdb : (x == ("__debug__" : Str)) = false := by decide) (hpl : ((backTo pos (starEach [] X.env)).any (·.1) || (backToKw pos (keywordEach kws X.env)).any (·.1.isNone)) = false := by rfl) :
    PE X (.Call (.Name x p) [] kws pos) (tCallK sp swap2 C8.E0 tNil tk) := by
  obtain ⟨f, fd, ps, F, hm, kp, b⟩ := c.ex
  exact pe_callKO F (hr.mono hk) hg hm kp b pass0 hkw hall hks hdb hpl
/-- a call by keywords, its arguments data -/
theorem evP_callKR {ι : Type} {args : ι → List PyData} {ok : ι → Prop} {R : ι → Hp → PP} {P : PP} {σ : L2.St} {H : Hp} {ta tb : TE} {E : XK} {d1 d2 : PyData} (i : ι) (ha : args i = [d2, d1]) (h1 : EvP ta σ H (Da d1)) (h2 : EvP tb σ H (Da d2)) (hk : ok i) (hR : ∀ H1 v H2, Ex H H1 → Ex H1 H2 → R i H1 v H2 → P v H2) : EvP (tCallK (spD args ok R) swap2 E tNil (tCons ta (tCons tb tNil))) σ H P := fun H1 e Q q =>
  h1 H1 e _ fun v H2 e2 hv => h2 H2 (e.trans e2) _ fun u H3 e3 hu => ⟨i, by rw [ha]; exact .cons hu (.cons (hv.ex e3) .nil), hk, fun r H4 e4 hr => q r H4 ((e2.trans e3).trans e4) (hR H3 r H4 ((e.trans e2).trans e3) e4 hr)⟩
theorem ev_repr {K : PySem.W.Frag} {σ : L2.St} {H : Hp} {te : TE} {x : V} {d : PyData} (h : Ev te σ H x) (hd : Dp K H x d) (ok : RepOk d) : Ev (tCB (rRepr K) (tCons te tNil)) σ H (.str d.shown) := fun H1 e Q q =>
  h H1 e _ fun H2 e2 => ⟨x, d, rfl, dp_ex (e.trans e2) d x hd, ok, q H2 e2⟩
theorem ev_reprP {K : PySem.W.Frag} {σ : L2.St} {H : Hp} {te : TE} {P : PP} {d : PyData} (h : EvP te σ H P) (hP : ∀ v H', P v H' → Dp K H' v d) (ok : RepOk d) : Ev (tCB (rRepr K) (tCons te tNil)) σ H (.str d.shown) := fun H1 e Q q =>
  h H1 e _ fun v H2 e2 hv => ⟨v, d, rfl, hP v H2 hv, ok, q H2 e2⟩
theorem nd_dp {K : PySem.W.Frag} {H0 H : Hp} {v : V} {ds : List PyData} (h : ND H0 ds v H) : Dp K H v (.list ds) := by
  obtain ⟨p, ys, rfl, _, hp, hd⟩ := h
  exact .lst (Evl.sq_of hp) (DenAll.dp _ _ hd)
abbrev st__law_same : Stmt := topS 48
theorem sc__law_same : FnScope ["_law_actual", "_law_due"] ["_law_actual", "_law_due"] (defScope st__law_same) := ⟨rfl, rfl, rfl, by decide +kernel, rfl, by decide +kernel, by decide +kernel⟩

def sp__law_same (K : PySem.W.Frag) : Sp := fun vs H Q _ => ∃ (x y : V) (d : PyData), vs = [x, y] ∧ Dp K H x d ∧ Dp K H y d ∧ RepOk d ∧ ∀ H', Ex H H' → Q (.bl true) H'
theorem ok__law_same {f : Addr} {fd : FuncData} (D : Df K mg "_law_same" st__law_same ["_law_actual", "_law_due"] f fd) (B : Bn mg) : CalG P w K mg base 1 "_law_same" (sp__law_same K) := by
  refine D.calG (okG (k := 0) D.F sc__law_same (fun vs H Q E h => by obtain ⟨x, y, d, rfl, _⟩ := h; rfl) (fun cdv A outer s H vs Q E hr hg h => ?_))
  obtain ⟨x, y, d, rfl, hx, hy, ok, q⟩ := h
  refine ⟨_, (pss_one (ps_ret (pe_cmpR op_eq (pe_callB (cr_repr hg (units64 hr)) (by rfl) B.repr (by decide +kernel) (pa_cons (pv 0) pa_nil)) (pe_callB (cr_repr hg (units64 hr)) (by rfl) B.repr (by decide +kernel) (pa_cons (pv 1) pa_nil)) (nomark _)))), ?_⟩
  exact s_ret (ev_is (ev_eqStr (ev_repr (ev_var rfl) hx ok) (ev_repr (ev_var rfl) hy ok)) (by rw [decide_eq_true rfl])) fun H1 e1 => q H1 e1
theorem evT_same {σ : L2.St} {H : Hp} {ta tb : TE} {P1 P2 : PP} {d : PyData} {E : XK} (h : EvP ta σ H P1) (h' : EvP tb σ H P2) (h1 : ∀ v H1, P1 v H1 → Dp K H1 v d) (h2 : ∀ v H1, P2 v H1 → Dp K H1 v d) (ok : RepOk d) : Ev (tCall (sp__law_same K) [] E (tCons ta (tCons tb tNil))) σ H (.bl true) := fun H1 e Q q =>
  h H1 e _ fun v H2 e2 pv => h' H2 (e.trans e2) _ fun w H3 e3 pw => ⟨v, w, d, rfl, dp_ex e3 d v (h1 v H2 pv), h2 w H3 pw, ok, fun H4 e4 => q H4 ((e2.trans e3).trans e4)⟩
abbrev st__law_are_told : Stmt := topS 57
theorem sc__law_are_told : FnScope ["_law_ground_here", "_law_dread_here", "_law_lots_here", "_law_much", "_law_is_held", "_law_sure", "_law_told", "_law_whole", "_law_wire"] ["_law_ground_here", "_law_dread_here"] (defScope st__law_are_told) := ⟨rfl, rfl, rfl, by decide +kernel, rfl, by decide +kernel, by decide +kernel⟩
/-- data whose text is short: n its depth, b its letters -/
structure Rp (n b : Nat) (d : PyData) : Prop where
  show_ : d.showable = true
  dict : d.hasDict = false
  short : d.leavesShort 13 = true
  depth : d.depth ≤ n
  bulk : d.bulk ≤ b
theorem Rp.ok {n b : Nat} {d : PyData} (h : Rp n b d) (hn : n ≤ 20) (hb : b ≤ 2 ^ 20) : RepOk d := ⟨h.show_, h.dict, Nat.le_trans h.depth hn, PyData.shown_fits_bulk (B := 13) (by decide) (by decide) h.short (Nat.le_trans h.bulk hb)⟩
theorem Rp.mono {n b m c : Nat} {d : PyData} (h : Rp n b d) (hn : n ≤ m) (hb : b ≤ c) : Rp m c d := ⟨h.show_, h.dict, h.short, Nat.le_trans h.depth hn, Nat.le_trans h.bulk hb⟩
theorem rp_non : Rp 0 0 .none := ⟨rfl, rfl, rfl, Nat.le_refl _, Nat.le_refl _⟩
theorem rp_bl (c : Bool) : Rp 0 0 (.bool c) := ⟨rfl, rfl, rfl, Nat.le_refl _, Nat.le_refl _⟩
theorem rp_int {i : Int} (h : i.natAbs < 10 ^ 12) : Rp 0 0 (.int i) := by
  refine ⟨?_, rfl, ?_, Nat.le_refl _, Nat.le_refl _⟩
  · show decide (i.natAbs.log2 < 1920) = true
    refine decide_eq_true ?_
    have h2 : i.natAbs < 2 ^ 1920 := Nat.lt_of_lt_of_le h (by decide)
    by_cases h0 : i.natAbs = 0
    · rw [h0]; decide
    · exact (Nat.log2_lt h0).mpr h2
  · have := PyData.shown_int_le h
    simpa only [PyData.leavesShort, decide_eq_true_eq] using this
theorem rp_str {x : Str} (h : PyData.strOk x = true) {b : Nat} (hb : x.length ≤ b) : Rp 0 b (.str x) := by
  refine ⟨rfl, rfl, ?_, Nat.zero_le _, hb⟩
  exact PyData.leavesShort_of_canLay0 13 (.str x) h rfl
theorem rp_all {n b : Nat} {ds : List PyData} (h : ∀ d ∈ ds, Rp n b d) : PyData.showableAll ds = true ∧ PyData.hasDictAll ds = false ∧ PyData.leavesShortAll 13 ds = true ∧ PyData.depthAll ds ≤ n ∧ PyData.bulkAll ds ≤ ds.length * (b + 1) := by
  induction ds with
  | nil => exact ⟨rfl, rfl, rfl, Nat.zero_le _, Nat.zero_le _⟩
  | cons d ds ih =>
    obtain ⟨a1, a2, a3, a4, a5⟩ := ih fun e he => h e (List.mem_cons_of_mem _ he)
    obtain ⟨b1, b2, b3, b4, b5⟩ := h d List.mem_cons_self
    refine ⟨?_, ?_, ?_, ?_, ?_⟩
    · show (d.showable && PyData.showableAll ds) = true
      rw [a1, b1]; rfl
    · show (d.hasDict || PyData.hasDictAll ds) = false
      rw [a2, b2]; rfl
    · show (d.leavesShort 13 && PyData.leavesShortAll 13 ds) = true
      rw [a3, b3]; rfl
    · exact Nat.max_le.mpr ⟨b4, a4⟩
    · show d.bulk + 1 + PyData.bulkAll ds ≤ _
      rw [List.length_cons, Nat.succ_mul]
      omega
theorem rp_list {n b m : Nat} {ds : List PyData} (h : ∀ d ∈ ds, Rp n b d) (hl : ds.length ≤ m) : Rp (n + 1) (m * (b + 1)) (.list ds) := by
  obtain ⟨a1, a2, a3, a4, a5⟩ := rp_all h
  exact ⟨a1, a2, a3, Nat.succ_le_succ a4, Nat.le_trans a5 (Nat.mul_le_mul_right _ hl)⟩
theorem rp_tup {n b m : Nat} {ds : List PyData} (h : ∀ d ∈ ds, Rp n b d) (hl : ds.length ≤ m) : Rp (n + 1) (m * (b + 1)) (.tuple ds) := by
  obtain ⟨a1, a2, a3, a4, a5⟩ := rp_all h
  exact ⟨a1, a2, a3, Nat.succ_le_succ a4, Nat.le_trans a5 (Nat.mul_le_mul_right _ hl)⟩
theorem rp_opt {o : Option Int} (h : ∀ i, o = some i → i.natAbs < 10 ^ 12) : Rp 0 0 (dOpt o) := by
  cases o with
  | none => exact rp_non
  | some i => exact rp_int (h i rfl)
theorem told_ok {a b : Option Int} {c : Bool} (ha : ∀ i, a = some i → i.natAbs < 10 ^ 12) (hb : ∀ i, b = some i → i.natAbs < 10 ^ 12) : RepOk (.list [dOpt a, dOpt a, dOpt b, dOpt b, .bool c]) := by
  refine (rp_list (ds := [dOpt a, dOpt a, dOpt b, dOpt b, .bool c]) (n := 0) (b := 0) (m := 5) (fun d hd => ?_) (show 5 ≤ 5 by decide)).ok (by decide) (by decide)
  simp only [List.mem_cons, List.not_mem_nil, or_false] at hd
  rcases hd with rfl | rfl | rfl | rfl | rfl
  · exact rp_opt ha
  · exact rp_opt ha
  · exact rp_opt hb
  · exact rp_opt hb
  · exact rp_bl c
theorem ev_sum {K : PySem.W.Frag} {σ : L2.St} {H H0 : Hp} {te : TE} {α : Type} {E : List α} {f : α → Int} (h : EvP te σ H (ND H0 (E.map fun e => .int (f e)))) : Ev (tCB (rSum K) (tCons te tNil)) σ H (.int (E.map f).sum) := fun H1 e Q q =>
  h H1 e _ fun v H2 e2 hv => by
    obtain ⟨p, ys, rfl, _, hp, hd⟩ := hv
    have hd : DenAll H2 ys ((E.map f).map .int) := by rw [List.map_map]; exact hd
    rw [DenAll.ints.mp hd] at hp
    exact ⟨p, E.map f, rfl, Evl.sq_of hp, q H2 e2⟩
theorem shaped_rows {rs : List Rw} (h : ∀ r ∈ rs, ∀ l ∈ [r.1, r.2.1, r.2.2], ∀ x ∈ l, PyData.strOk x = true) : SeqAt.shaped (.list (rs.map dRow)) = true := by
  have key : PyData.canLayAll0 (rs.map dRow) = true ∧ PyData.depthAll (rs.map dRow) ≤ 2 := by
    induction rs with
    | nil => exact ⟨rfl, Nat.zero_le _⟩
    | cons r rs ih =>
      obtain ⟨a1, a2⟩ := ih fun q hq => h q (List.mem_cons_of_mem _ hq)
      obtain ⟨b1, b2⟩ := shaped_lots (h r List.mem_cons_self)
      constructor
      · show (PyData.canLayAll0 ([r.1, r.2.1, r.2.2].map dLot) && PyData.canLayAll0 (rs.map dRow)) = true
        rw [a1, b1]; rfl
      · exact Nat.max_le.mpr ⟨Nat.succ_le_succ b2, a2⟩
  show (PyData.canLayAll0 (rs.map dRow) && decide (PyData.depthAll (rs.map dRow) + 1 ≤ 64)) = true
  rw [key.1, decide_eq_true (by have := key.2; omega)]
  rfl
/-- [..] == [] of rows -/
theorem ev_noRows {K : PySem.W.Frag} {σ : L2.St} {H : Hp} {ta tb : TE} {b : Bool} (h : EvP ta σ H (fun v H' => ∃ rs : List Rw, decide (rs = []) = b ∧ (∀ r ∈ rs, ∀ l ∈ [r.1, r.2.1, r.2.2], ∀ x ∈ l, PyData.strOk x = true) ∧ Dp K H' v (.list (rs.map dRow)))) (h' : EvL tb σ H []) : Ev (tOp (rEqD K) ta tb) σ H (.bl b) := fun H1 e Q q =>
  h H1 e _ fun v H2 e2 pv => h' H2 (e.trans e2) _ fun l H3 _ e3 hl => by
    obtain ⟨rs, hb, ok, hd⟩ := pv
    refine ⟨_, .list [], dp_ex e3 _ _ hd, .lst (Evl.sq_of hl) .nil, shaped_rows ok, rfl, ?_⟩
    have e : PyData.eqv (.list (rs.map dRow)) (.list []) = b := by
      rw [← hb]
      cases rs with
      | nil => rfl
      | cons l ls => rfl
    rw [e]
    exact q H3 (e2.trans e3)
theorem total_small {E : List Wr} (h : ∀ e ∈ E, -1000 ≤ e.lo ∧ e.hi ≤ 1000) : NhM.total E ≤ E.length * 2000 := by
  unfold NhM.total
  induction E with
  | nil => exact Int.le_refl 0
  | cons e E ih =>
    have h1 := h e List.mem_cons_self
    have h2 := ih fun f hf => h f (List.mem_cons_of_mem _ hf)
    have h3 : e.wd ≤ 2000 := by show e.hi - e.lo ≤ 2000; omega
    rw [List.map_cons, List.sum_cons, List.length_cons]
    push_cast
    rw [Int.add_mul]
    omega

def sp__law_are_told : Sp := spD (fun (i : List Str × List Wr × List (List Str)) => [dTown i.1 i.2.1, dFears i.2.2]) (fun i => TownIn i.1 i.2.1 ∧ FearsOk i.1 i.2.2) (fun _ _ v _ => v = .bl true)
theorem ok__law_are_told {f : Addr} {fd : FuncData} (D : Df K mg "_law_are_told" st__law_are_told ["_law_ground_here", "_law_dread_here"] f fd) (B : Bn mg) (c__law_lots : C8.Cal P w K mg base 1 "_law_lots" sp__law_lots []) (c__law_play : C8.Cal P w K mg base 2 "_law_play" sp__law_play []) (c__law_parted : C8.Cal P w K mg base 1 "_law_parted" sp__law_parted []) (c__law_same : CalG P w K mg base 1 "_law_same" (sp__law_same K)) (c_play_of : C8.Cal P w K mg base 8 "play_of" sp_play_of []) (c_bound_of : C8.Cal P w K mg base 8 "bound_of" sp_bound_of []) (c_is_bounded : C8.Cal P w K mg base 8 "is_bounded" sp_is_bounded []) (k_play_of : CalK P w K mg base 8 "play_of" sp_play_of ["fears", "town"]) (k_bound_of : CalK P w K mg base 8 "bound_of" sp_bound_of ["fears", "town"]) : CalG P w K mg base 9 "_law_are_told" sp__law_are_told := by
  refine D.calG (okG (k := 8) D.F sc__law_are_told (spD_len 2 fun _ => rfl) (fun cdv A outer s H vs Q E hr hg h => ?_))
  obtain ⟨⟨T, E', F⟩, hd, ⟨okI, ok2⟩, q⟩ := h
  obtain ⟨u, v, rfl, hu, hv⟩ := hd.two
  have hu : Den H u (.tuple [dLot T, .tuple (E'.map dWire)]) := hu
  have hv : Den H v (dFears F) := hv
  have okI : TownIn T E' := okI
  have ok2 : FearsOk T F := ok2
  have ok := okI.ok
  have h5 := ok.len
  have q : ∀ H', Ex H H' → Q (.bl true) H' := fun H' e => q _ H' e rfl
  refine ⟨_, (pss_cons (ps_asg (C8.pe_c c__law_lots hr (by decide) (by rfl) (pa_cons (pv 1) pa_nil)) (pg_name (i := 2) sc__law_are_told.nd rfl (Or.inl rfl))) (pss_cons (ps_asg (C8.pe_c c__law_play hr (by decide) (by rfl) (pa_cons (pv 0) (pa_cons (pv 2) pa_nil))) (pg_name (i := 3) sc__law_are_told.nd rfl (Or.inl rfl))) (pss_cons (ps_asg (pe_and (pe_cmpR op_notN (pv 3) pe_non (nomark _)) (pe_one (pe_cmpR (op_eqD (units64 hr)) (C8.pe_c c__law_parted hr (by decide) (by rfl) (pa_cons (pv 0) (pa_cons (pv 2) pa_nil))) (pe_lst pa_nil) (nomark _)))) (pg_name (i := 4) sc__law_are_told.nd rfl (Or.inl rfl))) (pss_cons (ps_asg (pe_ifExp (pt_val (pv 4)) (pe_op op_mul pe_int (pv 3)) pe_non) (pg_name (i := 5) sc__law_are_told.nd rfl (Or.inl rfl))) (pss_cons (ps_asg (pe_lst (pa_cons (C8.pe_c c_play_of hr (by decide) (by rfl) (pa_cons (pv 0) (pa_cons (pv 1) pa_nil))) (pa_cons (pe_cK k_play_of hr (by decide) (by rfl) (pk_cons (pv 1) (pk_cons (pv 0) pk_nil))) (pa_cons (C8.pe_c c_bound_of hr (by decide) (by rfl) (pa_cons (pv 0) (pa_cons (pv 1) pa_nil))) pa_nil)))) (pg_name (i := 6) sc__law_are_told.nd rfl (Or.inl rfl))) (pss_cons (ps_asg (pe_op op_cat (pv 6) (pe_lst (pa_cons (pe_cK k_bound_of hr (by decide) (by rfl) (pk_cons (pv 1) (pk_cons (pv 0) pk_nil))) (pa_cons (C8.pe_c c_is_bounded hr (by decide) (by rfl) (pa_cons (pv 0) (pa_cons (pv 1) pa_nil))) pa_nil)))) (pg_name (i := 6) sc__law_are_told.nd rfl (Or.inl rfl))) (pss_cons (ps_if (pt_not (pt_val (pe_cG c__law_same hr hg (by decide) (by rfl) (pa_cons (pv 6) (pa_cons (pe_lst (pa_cons (pv 3) (pa_cons (pv 3) (pa_cons (pv 5) (pa_cons (pv 5) (pa_cons (pv 4) pa_nil)))))) pa_nil))))) (pss_one (ps_ret pe_bl)) pss_nil) (pss_cons (ps_asg (pe_callB (cr_sum rfl) (by rfl) B.sum (by decide +kernel) (pa_cons (pe_lc (own := [("_law_wire", 8)]) (g := (gName 8)) (tt := tYes) (te := (tOp (rI0 fun i j => .int (i - j)) (tOp (rIxT K) (tVar 8) (tC (.int 3))) (tOp (rIxT K) (tVar 8) (tC (.int 2))))) rfl sc__law_are_told.nd (pi_tup (pe_ix ix_tup (pv 0) pe_int (fun _ _ => rfl))) (blkOk_by (N := ["_law_ground_here", "_law_dread_here", "_law_lots_here", "_law_much", "_law_is_held", "_law_sure", "_law_told", "_law_whole", "_law_wire"]) (sc := defScope st__law_are_told) (by decide +kernel)) (fun _ _ _ _ _ => (pg_name (i := 8) sc__law_are_told.nd rfl (Or.inl rfl))) (fun _ _ _ _ _ => pts_nil) (fun _ _ _ _ _ => (pe_op op_sub (pe_ix ix_tup (pv 8) pe_int (fun _ _ => rfl)) (pe_ix ix_tup (pv 8) pe_int (fun _ _ => rfl))))) pa_nil)) (pg_name (i := 7) sc__law_are_told.nd rfl (Or.inl rfl))) (pss_one (ps_ret (pe_or (pe_cmpR op_isN (pv 3) pe_non (nomark _)) (pe_one (pe_cmpR op_le (pv 3) (pv 7) (nomark _)))))))))))))), ?_⟩
  have ply_le : ∀ d, NhM.PlaySpec T E' F (some d) → 0 ≤ d ∧ d ≤ NhM.total E' ∧ d ≤ 20000 := fun d hd => by
    have h1 := hd.total (town_flat ok)
    have h2 := total_small okI.w
    have h3 := ok.elen
    have : (E'.length : Int) ≤ 10 := by omega
    exact ⟨hd.nonneg, h1, by omega⟩
  refine q_asgP (P := fun v H' => ∃ L, NhM.LotsOk F L ∧ L.length ≤ 32 ∧ ∃ p ys, v = .ref p ∧ H' p = some (.lst ys) ∧ DenAll H' ys (L.map dLot)) (evP_callR (T, F) (ead1 (EvP.var rfl hv)) ⟨ok2, h5, ok.asc⟩ fun H1 v H2 e1 _ hv => ?_) fun lv H1 e1 hl => ?_
  · obtain ⟨L, a, b, c, p, ys, rfl, d, e, f⟩ := hv
    exact ⟨L, a, c, p, ys, rfl, e, f⟩
  obtain ⟨L, hL, hlen, p, ys, rfl, hp, hys⟩ := hl
  have hu1 := hu.ex e1
  have hv1 := hv.ex e1
  refine q_asgP (P := fun v H' => ∃ r, NhM.PlaySpec T E' F r ∧ Den H' v (dOpt r)) (fun H2 e2 Q' q' => t_call2 (u := u) (v := .ref p) (ev_var rfl) (ev_var rfl) fun H3 e3 => ⟨u, p, T, E', F, L, ys, rfl, hu1.ex (e2.trans e3), (e2.trans e3) p _ hp, hys.ex (e2.trans e3), hlen, ok, hL, fun v H4 e4 h4 => q' v H4 (e3.trans e4) h4⟩) fun mv H2 e2 hm => ?_
  obtain ⟨r, ply, hmv⟩ := hm
  have e02 := e1.trans e2
  have hu2 := hu1.ex e2
  have hv2 := hv1.ex e2
  have thr := NhM.three_iff (asc_nodup ok.asc) (fears_in ok.asc ok2) hL
  refine q_asgP (P := fun v _ => v = .bl (r.isSome && !threeB T F)) (EvP.of (ev_andV (ev_is (ev_notNoneP (EvP.var rfl hmv)) (by rw [isNone_opt, Bool.not_not])) fun _ => ev_noRows (fun H3 e3 Q' q' => t_call2 (u := u) (v := .ref p) (ev_var rfl) (ev_var rfl) fun H4 e4 => ⟨u, p, T, E', L, ys, rfl, hu2.ex (e3.trans e4), (e2.trans (e3.trans e4)) p _ hp, hys.ex (e2.trans (e3.trans e4)), hlen, ok, fun v H5 e5 h5 => q' v H5 (e4.trans e5) ?_⟩) (el_lst (vs := []) ea_nil (by decide))) fun _ _ => rfl) fun iv H3 e3 hi => ?_
  · obtain ⟨rs, r1, r2, r3, r4⟩ := h5
    refine ⟨rs, three_none ?_, fun r hr => rows_ok (fun x hx => nm_ok (ok.nm x hx)) r (r3 r hr), nd_dp r4⟩
    rw [decide_eq_true_iff, r1, thr]
  subst hi
  have bnd : bndOf T F r = if (r.isSome && !threeB T F) = true then r.map (2 * ·) else none := by
    unfold bndOf
    cases r <;> cases threeB T F <;> rfl
  generalize hheld : (r.isSome && !threeB T F) = held at bnd
  refine q_asgP (P := Da (dOpt (bndOf T F r))) (evP_if (b := held) (et_B (ev_var rfl)) (fun hb => ?_) fun hb => ?_) fun sv H4 e4 hs => ?_
  · rw [bnd, if_pos hb]
    cases hr : r with
    | none => rw [hr] at hheld; rw [← hheld] at hb; cases hb
    | some d =>
      rw [hr] at hmv
      refine evP_of_int (ev_op (x := .int 2) (y := .int d) ev_c (EvP.int (EvP.var rfl (hmv.ex e3))) (rv_I (.inl ?_)))
      decide
  · rw [bnd, if_neg (by rw [hb]; decide)]
    exact evP_non
  have hs : Den H4 sv (dOpt (bndOf T F r)) := hs
  have e24 := e3.trans e4
  have hu4 := hu2.ex e24
  have hv4 := hv2.ex e24
  have hm4 := hmv.ex e24
  have pR : ∀ (H1 : Hp) (v : V) (H2 : Hp), Ex H4 H1 → Ex H1 H2 → (∃ r', NhM.PlaySpec T E' F r' ∧ Den H2 v (dOpt r')) → Da (dOpt r) v H2 := fun H1 v H2 _ _ ⟨r', a, b⟩ => by rw [ply.uniq a]; exact b
  refine q_asgP (evP_lst (ds := [dOpt r, dOpt r, dOpt (bndOf T F r)]) (ead3 (evP_callR (T, E', F) (EvP.of2 (EvP.var rfl hu4) (EvP.var rfl hv4)) ⟨ok, ok2⟩ pR) (evP_callKR (T, E', F) rfl (EvP.var rfl hv4) (EvP.var rfl hu4) ⟨ok, ok2⟩ pR) (evP_callR (T, E', F) (EvP.of2 (EvP.var rfl hu4) (EvP.var rfl hv4)) ⟨ok, ok2⟩ fun H1 v H2 _ _ ⟨r', a, b⟩ => by rw [ply.uniq a]; exact b)) (show 3 ≤ 100000 by decide)) fun tv H5 e5 ht => ?_
  obtain ⟨tp, ts, rfl, _, tp1, htd⟩ := ht
  have hu5 := hu4.ex e5
  have hv5 := hv4.ex e5
  refine q_asgP (evP_cat (ev_var rfl) tp1 htd (evP_lst (ds := [dOpt (bndOf T F r), .bool held]) (EvP.of2 (evP_callKR (T, E', F) rfl (EvP.var rfl hv5) (EvP.var rfl hu5) ⟨ok, ok2⟩ fun H1 v H2 _ _ ⟨r', a, b⟩ => by rw [ply.uniq a]; exact b) (evP_callR (T, E', F, r) (EvP.of2 (EvP.var rfl hu5) (EvP.var rfl hv5)) ⟨ok, ok2, ply⟩ fun H1 v H2 _ _ hv => by
    have hv : v = .bl (!threeB T F && r.isSome) := hv
    rw [Bool.and_comm, hheld] at hv
    rw [hv]
    exact Den.bl _)) (show 2 ≤ 100000 by decide)) (show 3 + 2 ≤ 100000 by decide)) fun tv H6 e6 ht => ?_
  have e46 := e5.trans e6
  have hu6 := hu5.ex e6
  have hm6 := hm4.ex e46
  have hs6 := hs.ex e46
  have ht : ND H5 [dOpt r, dOpt r, dOpt (bndOf T F r), dOpt (bndOf T F r), .bool held] tv H6 := ht
  have small : ∀ i, r = some i → i.natAbs < 10 ^ 12 := fun i hi => by
    have := ply_le i (by rw [← hi]; exact ply)
    omega
  have small2 : ∀ i, bndOf T F r = some i → i.natAbs < 10 ^ 12 := fun i hi => by
    rw [bnd] at hi
    split at hi
    · cases hr : r with
      | none => rw [hr] at hi; cases hi
      | some d =>
        rw [hr] at hi
        have := ply_le d (by rw [← hr]; exact ply)
        injection hi with hi
        dsimp only at hi
        omega
    · cases hi
  refine q_skip (et_is (et_not (et_B (evT_same (d := .list [dOpt r, dOpt r, dOpt (bndOf T F r), dOpt (bndOf T F r), .bool held]) (EvP.nd rfl ht) (evP_lst (ds := [dOpt r, dOpt r, dOpt (bndOf T F r), dOpt (bndOf T F r), .bool held]) (ead_cons (EvP.var rfl hm6) (ead_cons (EvP.var rfl hm6) (ead3 (EvP.var rfl hs6) (EvP.var rfl hs6) (EvP.den (ev_var rfl) (.bl held))))) (show 5 ≤ 100000 by decide)) (fun _ _ h => nd_dp h) (fun _ _ h => nd_dp h) (told_ok small small2)))) rfl) fun H7 e7 => ?_
  refine q_asgP (P := fun v _ => v = .int (NhM.total E')) (EvP.of (ev_sum (E := E') (f := NhM.Wire.wd) (lcY ((src_tup' (evP_ix (i := 1) (EvP.var rfl (hu6.ex e7)) ev_c rfl)).map' rfl) (by have := ok.elen; omega) (fun e => .int e.wd) fun e he x H' e' hx => ⟨_, evG_name, rfl, evP_of_int (ev_sub (EvP.int (evP_ix (i := 3) (EvP.var rfl hx) ev_c rfl)) (EvP.int (evP_ix (i := 2) (EvP.var rfl hx) ev_c rfl)))⟩)) fun _ _ => rfl) fun wv H8 e8 hw => ?_
  subst hw
  have hm8 := hm6.ex (e7.trans e8)
  have e08 := ((e02.trans e24).trans e46).trans (e7.trans e8)
  cases hr : r with
  | none =>
    rw [hr] at hm8
    exact s_ret (ev_is (ev_orV (a := true) (b := true) (ev_isNoneP (EvP.var rfl hm8)) fun z => nomatch z) rfl) fun H9 e9 => q H9 (e08.trans e9)
  | some d =>
    rw [hr] at hm8 ply
    have := (ply_le d ply).2.1
    exact s_ret (ev_is (ev_orV (ev_isNoneP (EvP.var rfl hm8)) fun _ => ev_le (EvP.int (EvP.var rfl hm8)) (ev_var rfl)) (by rw [decide_eq_true this]; rfl)) fun H9 e9 => q H9 (e08.trans e9)

end
end Nh

namespace Nh
open PySem PySem.Spec PyProof.Rows L2 Evl
section
variable {P : Program} {w : World} {K : PySem.W.Frag} {mg : Str → Option Value} {base : Heap}
theorem t_call1 {sp : Sp} {σ : L2.St} {H : Hp} {ta : TE} {u : V} {Q : VK} {E : XK} (h : Ev ta σ H u) (k : ∀ H1, Ex H H1 → sp [u] H1 Q E) : tCall sp [] E (tCons ta tNil) σ H Q := h H (Ex.refl H) _ fun H1 e1 => k H1 e1
theorem t_call2P {sp : Sp} {σ : L2.St} {H : Hp} {ta tb : TE} {u : V} {P : PP} {Q : VK} {E : XK} (h : Ev ta σ H u) (h' : EvP tb σ H P) (k : ∀ v H1, Ex H H1 → P v H1 → sp [u, v] H1 Q E) : tCall sp [] E (tCons ta (tCons tb tNil)) σ H Q :=
  h H (Ex.refl H) _ fun H1 e1 => h' H1 e1 _ fun v H2 e2 pv => k v H2 (e1.trans e2) pv
/-- t + u of tuples of data -/
theorem evP_catM {K : PySem.W.Frag} {σ : L2.St} {H : Hp} {ta tb : TE} {a b : List PyData} (h : EvP ta σ H (Da (.tuple a))) (h' : EvP tb σ H (Da (.tuple b))) (hn : a.length + b.length ≤ 100000) : EvP (tOp (rCatA K) ta tb) σ H (Da (.tuple (a ++ b))) := fun H1 e Q q =>
  h H1 e _ fun v H2 e2 pv => h' H2 (e.trans e2) _ fun w H3 e3 pw => by
    obtain ⟨x, xs, rfl, hx, hxd⟩ := Den.tuple pv
    obtain ⟨y, ys, rfl, hy, hyd⟩ := Den.tuple pw
    have e23 := e2.trans e3
    have hxd3 := hxd.ex e3
    refine ⟨x, y, _, _, rfl, rfl, Evl.st_of (e3 x _ hx), Evl.st_of hy, Evl.sz_of (by rw [hxd.len, hyd.len]; exact hn), fun z => ?_, fun _ z => ?_, fun _ _ p hp => ?_⟩
    · subst z
      have : a = [] := List.length_eq_zero_iff.mp (by rw [← hxd.len]; rfl)
      subst this
      exact q _ H3 e23 (.tup hy hyd)
    · subst z
      have : b = [] := List.length_eq_zero_iff.mp (by rw [← hyd.len]; rfl)
      subst this
      rw [List.append_nil] at q
      exact q _ H3 e23 (.tup (e3 x _ hx) hxd3)
    · exact q _ _ (e23.trans (Ex.new hp)) (.tup upd_same ((hxd3.append hyd).ex (Ex.new hp)))
theorem town_scale {T : List Str} {E : List Wr} (h : TownOk T E) {k : Int} (hk : 0 ≤ k) : TownOk T (E.map (NhM.scale k)) := by
  refine ⟨h.ne, h.len, h.nm, h.asc, by rw [List.length_map]; exact h.elen, fun e he => ?_, fun i e f he hf => ?_⟩
  · obtain ⟨g, hg, rfl⟩ := List.mem_map.mp he
    obtain ⟨a, b, c, d⟩ := h.w g hg
    exact ⟨a, b, c, Int.mul_le_mul_of_nonneg_left d hk⟩
  · rw [List.getElem?_map] at he hf
    cases h1 : E[i]? with
    | none => rw [h1] at he; cases he
    | some e1 =>
      cases h2 : E[i + 1]? with
      | none => rw [h2] at hf; cases hf
      | some f1 =>
        rw [h1] at he
        rw [h2] at hf
        cases he
        cases hf
        exact h.ord i e1 f1 h1 h2
theorem fears_unit {T : List Str} : FearsOk T [[]] := by
  refine ⟨fun z => (nomatch z), (show 1 ≤ 5 by decide), fun l hl => ?_, fun k l m hl hm => ?_⟩
  · rw [List.mem_singleton.mp hl]
    exact ⟨Nat.zero_le _, (fun x hx => nomatch hx), .nil, fun x hx => nomatch hx⟩
  · rw [List.getElem?_eq_none (by show 1 ≤ k + 1; omega)] at hm
    cases hm
theorem rep_big {o : Option Int} (h : ∀ i, o = some i → i.natAbs.log2 < 1920) : RepOk (dOpt o) := by
  cases o with
  | none => exact rp_non.ok (by decide) (by decide)
  | some i =>
    have hi := h i rfl
    exact ⟨decide_eq_true hi, rfl, Nat.zero_le _, PySem.int_text_fits hi⟩
theorem rp_lot {l : List Str} (h5 : l.length ≤ 5) (nm : ∀ x ∈ l, nameOk x) : Rp 1 45 (dLot l) := by
  refine rp_tup (n := 0) (b := 8) (m := 5) (ds := l.map .str) (fun d hd => ?_) (by rw [List.length_map]; exact h5)
  obtain ⟨x, hx, rfl⟩ := List.mem_map.mp hd
  exact rp_str (nm_ok (nm x hx)) (nm x hx).2.1
theorem rp_world {T : List Str} {E : List Wr} {F : List (List Str)} (h : TownIn T E) (h2 : FearsOk T F) : RepOk (.list [dTown T E, dFears F]) := by
  have t1 : Rp 4 1000 (dTown T E) := by
    refine (rp_tup (n := 3) (b := 400) (m := 2) (ds := [dLot T, .tuple (E.map dWire)]) (fun d hd => ?_) (show 2 ≤ 2 by decide)).mono (by decide) (by decide)
    simp only [List.mem_cons, List.not_mem_nil, or_false] at hd
    rcases hd with rfl | rfl
    · exact (rp_lot h.ok.len h.ok.nm).mono (by decide) (by decide)
    · refine (rp_tup (n := 1) (b := 36) (m := 10) (ds := E.map dWire) (fun d hd => ?_) (by rw [List.length_map]; exact h.ok.elen)).mono (by decide) (by decide)
      obtain ⟨e, he, rfl⟩ := List.mem_map.mp hd
      obtain ⟨ha, hb, _, hle⟩ := h.ok.w e he
      obtain ⟨l1, l2⟩ := h.w e he
      refine (rp_tup (n := 0) (b := 8) (m := 4) (ds := [.str e.a, .str e.b, .int e.lo, .int e.hi]) (fun d hd => ?_) (show 4 ≤ 4 by decide)).mono (by decide) (by decide)
      simp only [List.mem_cons, List.not_mem_nil, or_false] at hd
      rcases hd with rfl | rfl | rfl | rfl
      · exact rp_str (nm_ok (h.ok.nm _ ha)) (h.ok.nm _ ha).2.1
      · exact rp_str (nm_ok (h.ok.nm _ hb)) (h.ok.nm _ hb).2.1
      · exact (rp_int (by omega)).mono (by decide) (by decide)
      · exact (rp_int (by omega)).mono (by decide) (by decide)
  have t2 : Rp 4 1000 (dFears F) := by
    refine (rp_tup (n := 1) (b := 45) (m := 5) (ds := F.map fun l => dLot l) (fun d hd => ?_) (by rw [List.length_map]; exact h2.len)).mono (by decide) (by decide)
    obtain ⟨l, hl, rfl⟩ := List.mem_map.mp hd
    exact rp_lot (h2.lots l hl).len (h2.lots l hl).nm
  refine (rp_list (n := 4) (b := 1000) (m := 2) (ds := [dTown T E, dFears F]) (fun d hd => ?_) (show 2 ≤ 2 by decide)).ok (by decide) (by decide)
  simp only [List.mem_cons, List.not_mem_nil, or_false] at hd
  rcases hd with rfl | rfl
  · exact t1
  · exact t2
theorem pow9 : (10 : Int) ^ (9 : Int).toNat = 1000000000 := by decide
theorem pow50 : (10 : Int) ^ (50 : Int).toNat = 100000000000000000000000000000000000000000000000000 := by decide
theorem big_ok {k : Int} (h : k ∈ ([2, 3, 1000000000, 100000000000000000000000000000000000000000000000000] : List Int)) : 0 ≤ k ∧ k.natAbs < 2 ^ 167 := by
  simp only [List.mem_cons, List.not_mem_nil, or_false] at h
  rcases h with rfl | rfl | rfl | rfl <;> decide
theorem small_11 {i : Int} (h : -1000 ≤ i ∧ i ≤ 1000) : i.natAbs < 2 ^ 15 := by
  have : i.natAbs ≤ 1000 := by omega
  exact Nat.lt_of_le_of_lt this (by decide)
theorem prod_log {k i : Int} (hk : k.natAbs < 2 ^ 167) (hi : i.natAbs < 2 ^ 15) : (k * i).natAbs.log2 < 1920 := by
  rw [Int.natAbs_mul]
  have h : k.natAbs * i.natAbs < 2 ^ 1920 := Nat.lt_of_lt_of_le (Nat.mul_lt_mul'' hk hi) (by rw [← Nat.pow_add]; exact Nat.pow_le_pow_right (by decide) (by decide))
  by_cases h0 : k.natAbs * i.natAbs = 0
  · rw [h0]; decide
  · exact (Nat.log2_lt h0).mpr h
abbrev st_law : Stmt := topS 58
theorem sc_law : FnScope ["_law_script", "_law_feed_here", "_law_lap", "_law_ground_here", "_law_dread_here", "_law_kept", "_law_big", "_law_wires_here", "_law_wire", "_law_much", "_law_due"] ["_law_script"] (defScope st_law) := ⟨rfl, rfl, rfl, by decide +kernel, rfl, by decide +kernel, by decide +kernel⟩

theorem sql_ex {K : PySem.W.Frag} {H H' : Hp} {a : Addr} {xs : List V} (e : Ex H H') (h : SqL K H a xs) : SqL K H' a xs := ex_l e h
def sp_law (K : PySem.W.Frag) : Sp := fun vs H Q _ => ∃ (a : Addr) (ns : List Int), vs = [V.ref a] ∧ SqL K H a (ns.map V.int) ∧ ns.length ≤ 1000 ∧ ∀ H', Q (.bl true) H'
theorem ok_law {f : Addr} {fd : FuncData} (D : Df K mg "law" st_law ["_law_script"] f fd) (B : Bn mg) (c__law_feed : C8.Cal P w K mg base 1 "_law_feed" (sp__law_feed K) []) (c__law_ground : C8.Cal P w K mg base 4 "_law_ground" sp__law_ground []) (c__law_dread : C8.Cal P w K mg base 3 "_law_dread" sp__law_dread []) (c__law_any : C8.Cal P w K mg base 2 "_law_any" sp__law_any []) (c_play_of : C8.Cal P w K mg base 8 "play_of" sp_play_of []) (c__law_same : CalG P w K mg base 1 "_law_same" (sp__law_same K)) (c__law_are_told : CalG P w K mg base 9 "_law_are_told" sp__law_are_told) : FnG P w K mg base 10 f fd ["_law_script"] (sp_law K) := by
  refine (okG (k := 9) D.F sc_law (fun vs H Q E h => by obtain ⟨a, ns, rfl, _⟩ := h; rfl) (fun cdv A outer s H vs Q E hr hg h => ?_))
  obtain ⟨a, ns, rfl, ha, hn, q⟩ := h
  refine ⟨_, (pss_cons (ps_asg (C8.pe_c c__law_feed hr (by decide) (by rfl) (pa_cons (pv 0) pa_nil)) (pg_name (i := 1) sc_law.nd rfl (Or.inl rfl))) (pss_cons (ps_for PassesOwn.never rfl (pi_range1 (by rfl) B.range (pa_cons pe_int pa_nil)) (pg_name (i := 2) sc_law.nd rfl (Or.inl rfl)) (pss_cons (ps_asg (C8.pe_c c__law_ground hr (by decide) (by rfl) (pa_cons (pv 1) (pa_cons (pe_ifExp (pt_cmpR op_eq (pv 2) pe_int (nomark _)) pe_int pe_int) pa_nil))) (pg_name (i := 3) sc_law.nd rfl (Or.inl rfl))) (pss_cons (ps_asg (C8.pe_c c__law_dread hr (by decide) (by rfl) (pa_cons (pv 1) (pa_cons (pe_ix ix_tup (pv 3) pe_int (fun _ _ => rfl)) pa_nil))) (pg_name (i := 4) sc_law.nd rfl (Or.inl rfl))) (pss_cons (ps_asg (pe_callB (cr_repr hg (units64 hr)) (by rfl) B.repr (by decide +kernel) (pa_cons (pe_lst (pa_cons (pv 3) (pa_cons (pv 4) pa_nil))) pa_nil)) (pg_name (i := 5) sc_law.nd rfl (Or.inl rfl))) (pss_cons (ps_if (PW.pt (pw_or (pt_not (pt_val (pe_cG c__law_are_told hr hg (by decide) (by rfl) (pa_cons (pv 3) (pa_cons (pv 4) pa_nil))))) (pw_or1 (pt_cmpR op_ne (pe_callB (cr_repr hg (units64 hr)) (by rfl) B.repr (by decide +kernel) (pa_cons (pe_lst (pa_cons (pv 3) (pa_cons (pv 4) pa_nil))) pa_nil)) (pv 5) (nomark _))))) (pss_one (ps_ret pe_bl)) pss_nil) (pss_cons (ps_asg (C8.pe_c c__law_any hr (by decide) (by rfl) (pa_cons (pv 1) (pa_cons (pe_lst (pa_cons pe_int (pa_cons pe_int (pa_cons (pe_op op_pow pe_int pe_int) (pa_cons (pe_op op_pow pe_int pe_int) pa_nil))))) pa_nil))) (pg_name (i := 6) sc_law.nd rfl (Or.inr rfl))) (pss_cons (ps_asg (pe_callTy call_tuple_of (by rfl) B.tuple (by decide +kernel) (pa_cons (pe_lc (own := [("_law_wire", 8)]) (g := (gName 8)) (tt := tYes) (te := (tOp (rCatA K) (tSl (rSlA K) (tVar 8) tNoPart (tPart (tC (.int 2)))) (tTup (tCons (tOp (rI CMulW fun i j => .int (i * j)) (tVar 6) (tOp (rIxT K) (tVar 8) (tC (.int 2)))) (tCons (tOp (rI CMulW fun i j => .int (i * j)) (tVar 6) (tOp (rIxT K) (tVar 8) (tC (.int 3)))) tNil))))) rfl sc_law.nd (pi_tup (pe_ix ix_tup (pv 3) pe_int (fun _ _ => rfl))) (blkOk_by (N := ["_law_script", "_law_feed_here", "_law_lap", "_law_ground_here", "_law_dread_here", "_law_kept", "_law_big", "_law_wires_here", "_law_wire", "_law_much", "_law_due"]) (sc := defScope st_law) (by decide +kernel)) (fun _ _ _ _ _ => (pg_name (i := 8) sc_law.nd rfl (Or.inl rfl))) (fun _ _ _ _ _ => pts_nil) (fun _ _ _ _ _ => (pe_op op_catA (pe_slice sl_tupA (pv 8) po_none (po_some pe_int)) (pe_tup (pa_cons (pe_op op_mulW (pv 6) (pe_ix ix_tup (pv 8) pe_int (fun _ _ => rfl))) (pa_cons (pe_op op_mulW (pv 6) (pe_ix ix_tup (pv 8) pe_int (fun _ _ => rfl))) pa_nil)))))) pa_nil)) (pg_name (i := 7) sc_law.nd rfl (Or.inl rfl))) (pss_cons (ps_asg (C8.pe_c c_play_of hr (by decide) (by rfl) (pa_cons (pv 3) (pa_cons (pv 4) pa_nil))) (pg_name (i := 9) sc_law.nd rfl (Or.inl rfl))) (pss_cons (ps_asg (pe_ifExp (pt_cmpR op_isN (pv 9) pe_non (nomark _)) pe_non (pe_op op_mulW (pv 6) (pv 9))) (pg_name (i := 10) sc_law.nd rfl (Or.inl rfl))) (pss_cons (ps_if (pt_not (pt_val (pe_cG c__law_same hr hg (by decide) (by rfl) (pa_cons (C8.pe_c c_play_of hr (by decide) (by rfl) (pa_cons (pe_tup (pa_cons (pe_ix ix_tup (pv 3) pe_int (fun _ _ => rfl)) (pa_cons (pv 7) pa_nil))) (pa_cons (pv 4) pa_nil))) (pa_cons (pv 10) pa_nil))))) (pss_one (ps_ret pe_bl)) pss_nil) (pss_one (ps_if (pt_not (pt_val (pe_cG c__law_are_told hr hg (by decide) (by rfl) (pa_cons (pv 3) (pa_cons (pe_tup (pa_cons (pe_tup pa_nil) pa_nil)) pa_nil))))) (pss_one (ps_ret pe_bl)) pss_nil)))))))))))) (pss_one (ps_ret pe_bl)))), ?_⟩
  refine q_asgP (P := fun v H' => ∃ p c, v = .ref p ∧ FeedAt H' p c 0) (fun H1 e1 Q' q' => t_call1 (u := .ref a) (ev_var rfl) fun H2 e2 => ⟨a, ns, rfl, sql_ex (e1.trans e2) ha, hn, fun p c H3 e3 hp hc hf => q' _ H3 (e2.trans e3) ⟨p, c, rfl, hf⟩⟩) fun fv H1 e1 hf => ?_
  obtain ⟨p, c, rfl, hf⟩ := hf
  refine s_forT (D := { nx := _, rt := Q }) (srcT_range (n := 3) (ea_cons ev_c ea_nil) (by decide)) (fun Hs i σ' H' => Tk Hs H' ∧ FeedAt H' p c (500 * i) ∧ ∃ b d e f g h j k l, σ' = [some (.ref a), some (.ref p), b, d, e, f, g, h, j, k, l]) (fun H2 e2 => ⟨Tk.refl _, hf.more e2, _, _, _, _, _, _, _, _, _, rfl⟩) (fun _ _ _ _ _ p => p.1) ?_ ?_
  · rintro Hs es i k hik xv σ' H2 H3 ⟨r1, r2, b, d, e, f, g, h, j, kk, l, rfl⟩ e3 rfl
    have hi3 : i < 3 := by
      have := (List.getElem?_eq_some_iff.mp hik).1
      rw [List.length_range] at this
      exact this
    have hki : k = i := by
      rw [List.getElem?_range hi3] at hik
      injection hik with z
      exact z.symm
    subst hki
    refine evG_name H3 (Ex.refl _) _ fun H4 e4 => ?_
    have f4 := r2.more (e3.trans e4)
    have t4 := r1.trans (Tk.ex (e3.trans e4))
    -- the ground
    refine q_asgD (p := p) (c := c) (m := 500 * k + 300) (P := fun v H' => ∃ T E, TownIn T E ∧ Den H' v (dTown T E)) (fun Q' q' => t_call2 (u := .ref p) (v := .int ((if k = 0 then 5 else 4 : Nat) : Int)) (ev_var rfl) (ev_if (b := decide (k = 0)) (et_is (et_test (ev_eqI (ev_var rfl) ev_c)) (by rw [decide_eq_decide]; omega)) (fun z => by rw [if_pos (of_decide_eq_true z)]; exact ev_c) fun z => by rw [if_neg (of_decide_eq_false z)]; exact ev_c) fun H5 e5 => ⟨p, c, (if k = 0 then 5 else 4), 500 * k, rfl, by split <;> decide, by split <;> decide, f4.more e5, by omega, fun v H6 T E x6 f6 h1 h2 => q' v H6 ((Exd.ex e5).trans x6) f6 ⟨T, E, h1, h2⟩⟩) fun gv H5 x5 f5 hg5 => ?_
    obtain ⟨T, E', okI, hg5⟩ := hg5
    have hg5 : Den H5 gv (.tuple [dLot T, .tuple (E'.map dWire)]) := hg5
    have ok := okI.ok
    -- the dread
    refine q_asgD (p := p) (c := c) (m := 500 * k + 300 + 100) (P := fun v H' => ∃ F, FearsOk T F ∧ Den H' v (dFears F)) (fun Q' q' => t_call2P (u := .ref p) (ev_var rfl) (evP_ix (i := 0) (EvP.var rfl hg5) ev_c rfl) fun v H6 e6 hv => ⟨p, c, v, T, 500 * k + 300, rfl, hv, ok.ne, ok.len, ok.nm, ok.asc, f5.more e6, by omega, fun v H7 F x7 f7 h1 h2 => q' v H7 ((Exd.ex e6).trans x7) f7 ⟨F, h1, h2⟩⟩) fun dv H6 x6 f6 hd6 => ?_
    obtain ⟨F, ok2, hd6⟩ := hd6
    have hg6 : Den H6 gv (.tuple [dLot T, .tuple (E'.map dWire)]) := hg5.tk (x6.tk f5.nt) _ _
    have t6 := (t4.trans (x5.tk f4.nt)).trans (x6.tk f5.nt)
    have rp := rp_world okI ok2
    refine q_asg (ev_reprP (d := .list [dTown T E', dFears F]) (evP_lst (ds := [dTown T E', dFears F]) (EvP.of2 (EvP.var rfl hg6) (EvP.var rfl hd6)) (show 2 ≤ 100000 by decide)) (fun _ _ h => nd_dp h) rp) fun H7 e7 => ?_
    have hg7 := hg6.ex e7
    have hd7 := hd6.ex e7
    refine q_skip (et_is (et_or (et_not (et_B (ev_callT (T, E', F) (EvP.of2 (EvP.var rfl hg7) (EvP.var rfl hd7)) ⟨okI, ok2⟩))) fun _ => et_test (ev_neStr (ev_reprP (d := .list [dTown T E', dFears F]) (evP_lst (ds := [dTown T E', dFears F]) (EvP.of2 (EvP.var rfl hg7) (EvP.var rfl hd7)) (show 2 ≤ 100000 by decide)) (fun _ _ h => nd_dp h) rp) (ev_var rfl))) (by rw [decide_eq_true rfl]; rfl)) fun H8 e8 => ?_
    have e68 := e7.trans e8
    have f8 := f6.more e68
    refine q_asgD (p := p) (c := c) (m := 500 * k + 300 + 100 + 1) (P := IntP fun r => r ∈ ([2, 3, 1000000000, 100000000000000000000000000000000000000000000000000] : List Int)) (d_any f8 (by omega) (ev_var rfl) (el_lst (vs := [.int 2, .int 3, .int 1000000000, .int 100000000000000000000000000000000000000000000000000]) (ea_cons ev_c (ea_cons ev_c (ea_cons (ev_is (ev_op (x := .int 10) (y := .int 9) ev_c ev_c (rv_I ⟨by decide, by decide, by decide⟩)) (by rw [pow9])) (ea_cons (ev_is (ev_op (x := .int 10) (y := .int 50) ev_c ev_c (rv_I ⟨by decide, by decide, by decide⟩)) (by rw [pow50])) ea_nil)))) (show 4 ≤ 100000 by decide)) (by decide) (by decide)) fun bv H9 x9 f9 hb9 => ?_
    obtain ⟨big, rfl, hb9⟩ := hb9
    obtain ⟨b0, b167⟩ := big_ok hb9
    have tk69 := (Tk.ex e68).trans (x9.tk f8.nt)
    have hg9 : Den H9 gv (.tuple [dLot T, .tuple (E'.map dWire)]) := hg6.tk tk69 _ _
    have hd9 : Den H9 dv (dFears F) := hd6.tk tk69 _ _
    refine q_asgP (P := Da (.tuple ((E'.map (NhM.scale big)).map dWire))) (EvP.imp (evP_tupleOf (lcY ((src_tup' (evP_ix (i := 1) (EvP.var rfl hg9) ev_c rfl)).map' rfl) (by have := ok.elen; omega) (fun e => dWire (NhM.scale big e)) fun e he x H' e' hx => ?_)) fun v H' _ hv => by rw [List.map_map]; exact hv) fun wv H10 e10 hw => ?_
    · obtain ⟨l1, l2⟩ := okI.w e he
      have hle := (ok.w e he).2.2.2
      refine ⟨_, evG_name, rfl, evP_catM (a := [.str e.a, .str e.b]) (b := [.int (big * e.lo), .int (big * e.hi)]) (evP_slTo (k := 2) (ds := [.str e.a, .str e.b, .int e.lo, .int e.hi]) (EvP.var rfl hx) ev_c) (evP_tup (EvP.of2 (evP_of_int (ev_op (x := .int big) (y := .int e.lo) (ev_var rfl) (EvP.int (evP_ix (i := 2) (EvP.var rfl hx) ev_c rfl)) (rv_I ?_))) (evP_of_int (ev_op (x := .int big) (y := .int e.hi) (ev_var rfl) (EvP.int (evP_ix (i := 3) (EvP.var rfl hx) ev_c rfl)) (rv_I ?_)))) (show 2 ≤ 100000 by decide)) (show 2 + 2 ≤ 100000 by decide)⟩
      · exact wide_mul (a := 167) (b := 15) b167 (small_11 (by omega)) (by decide) (by decide) (by decide)
      · exact wide_mul (a := 167) (b := 15) b167 (small_11 (by omega)) (by decide) (by decide) (by decide)
    have hw : Den H10 wv (.tuple ((E'.map (NhM.scale big)).map dWire)) := hw
    have hg10 := hg9.ex e10
    have hd10 := hd9.ex e10
    refine q_asgP (P := fun v H' => ∃ r, NhM.PlaySpec T E' F r ∧ Den H' v (dOpt r)) (evP_callR (T, E', F) (EvP.of2 (EvP.var rfl hg10) (EvP.var rfl hd10)) ⟨ok, ok2⟩ fun H1 v H2 _ _ hv => hv) fun mv H11 e11 hm => ?_
    obtain ⟨r, ply, hm⟩ := hm
    have sm : ∀ d, r = some d → d.natAbs < 2 ^ 15 := fun d hd => by
      rw [hd] at ply
      have h1 := ply.total (town_flat ok)
      have h2 := total_small okI.w
      have h3 := ok.elen
      have h4 := ply.nonneg
      have h5 : (E'.length : Int) ≤ 10 := by omega
      have h6 : d.natAbs ≤ 20000 := by omega
      exact Nat.lt_of_le_of_lt h6 (by decide)
    refine q_asgP (P := Da (dOpt (r.map (big * ·)))) (evP_if (b := !r.isSome) (et_is (et_test (ev_isNoneP (EvP.var rfl hm))) (isNone_opt r)) (fun hb => ?_) fun hb => ?_) fun uv H12 e12 hu12 => ?_
    · cases hr : r with
      | some d => rw [hr] at hb; cases hb
      | none => exact evP_non
    · cases hr : r with
      | none => rw [hr] at hb; cases hb
      | some d =>
        rw [hr] at hm
        exact evP_of_int (ev_op (x := .int big) (y := .int d) (ev_var rfl) (EvP.int (EvP.var rfl hm)) (rv_I (wide_mul (a := 167) (b := 15) b167 (sm d hr) (by decide) (by decide) (by decide))))
    have hu12 : Den H12 uv (dOpt (r.map (big * ·))) := hu12
    have e1012 := e11.trans e12
    have hg12 := hg10.ex e1012
    have hd12 := hd10.ex e1012
    have hw12 := hw.ex e1012
    refine q_skip (et_is (et_not (et_B (evT_same (d := dOpt (r.map (big * ·))) (P1 := Da (dOpt (r.map (big * ·)))) (evP_callR (T, E'.map (NhM.scale big), F) (EvP.of2 (evP_tup (ds := [dLot T, .tuple ((E'.map (NhM.scale big)).map dWire)]) (EvP.of2 (evP_ix (i := 0) (EvP.var rfl hg12) ev_c rfl) (EvP.var rfl hw12)) (show 2 ≤ 100000 by decide)) (EvP.var rfl hd12)) ⟨town_scale ok b0, ok2⟩ fun H1 v H2 _ _ ⟨r', a, b⟩ => by rw [(ply.scale b0).uniq a]; exact b) (EvP.var rfl hu12) (fun v H1 h => Den.dp _ _ h) (fun v H1 h => Den.dp _ _ h) (rep_big fun i hi => ?_)))) rfl) fun H13 e13 => ?_
    · cases hr : r with
      | none => rw [hr] at hi; cases hi
      | some d =>
        rw [hr] at hi
        injection hi with hi
        rw [← hi]
        exact prod_log b167 (sm d hr)
    have hg13 := hg12.ex e13
    refine q_ifF (et_is (et_not (et_B (ev_callT (T, E', [[]]) (EvP.of2 (EvP.var rfl hg13) (evP_tup (ds := [.tuple []]) (ead1 (evP_tup ead_nil (by decide))) (show 1 ≤ 100000 by decide))) ⟨okI, fears_unit⟩))) rfl) fun H14 e14 => ?_
    have e914 := ((e10.trans e1012).trans e13).trans e14
    exact ⟨(t6.trans tk69).trans (Tk.ex e914), (f9.more e914).le (by omega), _, _, _, _, _, _, _, _, _, rfl⟩
  · rintro Hs es σ' H2 ⟨_, _, b, d, e, f, g, h, j, kk, l, rfl⟩
    exact q H2

end
end Nh

/-! sorted: of lists of texts, of wires -/
namespace Nh
open PySem PySem.Spec PyProof.Rows L2 Evl

theorem refs_eq {β : Type} : ∀ {bs : List (Addr × β)} {us : List Value}, Vals (bs.map fun p => V.ref p.1) us → us = bs.map fun p => Value.ref p.1
  | [], _, .nil => rfl
  | p :: bs, _, .cons r t => by
    cases r
    rw [refs_eq t] <;> rfl
theorem vals_refs {β : Type} : ∀ (bs : List (Addr × β)), Vals (bs.map fun p => V.ref p.1) (bs.map fun p => Value.ref p.1)
  | [] => .nil
  | p :: bs => .cons rfl (vals_refs bs)
theorem each_ref {β : Type} : ∀ (bs : List (Addr × β)), PySem.W.EachIs (fun v b => v = Value.ref b.1) (bs.map fun p => Value.ref p.1) bs
  | [] => .nil
  | p :: bs => .cons rfl (each_ref bs)
theorem ref_each {β : Type} : ∀ {bs : List (Addr × β)} {us : List Value}, PySem.W.EachIs (fun v b => v = Value.ref b.1) us bs → us = bs.map fun p => Value.ref p.1
  | [], _, .nil => rfl
  | p :: bs, _, .cons r t => by rw [r, ref_each t]; rfl
theorem each_of {β : Type} {R : Value → (Addr × β) → Prop} : ∀ (bs : List (Addr × β)), (∀ b ∈ bs, R (.ref b.1) b) → PySem.W.EachIs R (bs.map fun p => Value.ref p.1) bs
  | [], _ => .nil
  | p :: bs, h => .cons (h p List.mem_cons_self) (each_of bs fun b hb => h b (List.mem_cons_of_mem _ hb))
theorem sort_gen {X : Cx} {pins : List (Addr × Obj)} {σ : L2.St} {H : Hp} {s : Shared} {Q : VK} {β : Type} {bs : List (Addr × β)} {enc : Addr × β → PyData} {a : Addr} (I : Inv X pins σ H s) (hs : SqL X.K H a (bs.map fun p => V.ref p.1)) (hd : ∀ p ∈ bs, Dp X.K H (.ref p.1) (enc p))
    (hal : PySem.W.AllAlike (bs.map enc)) (hk : PySem.W.Sortable (bs.map enc)) (hl : bs.length < 60) (dep : ∀ p ∈ bs, (enc p).depth ≤ 5) (hu : X.A.units + 64 < cLine)
    (q : ∀ p, H p = none → Q (.ref p) (upd H p (.lst ((bs.mergeSort (PySem.W.dataLe false enc)).map fun p => V.ref p.1)))) : wpAny (model X.prog X.w) X.A (call (.builtin "sorted") [.ref a]) (EP X pins σ Q) X.xe s := by
  obtain ⟨its, rv, hl', hz⟩ := I.list hs
  have e1 := refs_eq rv
  subst e1
  refine PySem.W.sorted_data (R := fun v b => v = Value.ref b.1) hl'.isList (each_ref bs) (each_of bs fun b hb => ?_) hal hk (by rw [sizeLine_eq]; omega) (fun b hb => by have := dep b hb; omega) fun out hlen ho => ?_
  · exact Dp.reads I _ _ _ (hd b hb) rfl
  · have eo := ref_each ho
    subst eo
    obtain ⟨ep, he'⟩ := PyProof.Rows.sortedAll_at s.heap (bs.map fun p => Value.ref p.1) ((bs.mergeSort (PySem.W.dataLe false enc)).map fun p => Value.ref p.1).toArray
    refine ⟨.ref _, upd H (s.heap.objs.size + 1) (.lst _), I.laid (t' := s.toks) (fun _ _ => PyProof.Rows.sortedAll_old) (Nat.le_succ _) ⟨?_, _, ep, vals_refs _, he'⟩, rfl, q _ (I.hok.fresh (Nat.le_succ _))⟩
    rw [List.length_map, List.length_mergeSort, sizeLine_eq]
    omega
theorem alike_strs : ∀ (xs ys : List Str), PySem.W.alikeAll (xs.map .str) (ys.map .str) = true
  | [], _ => rfl
  | _ :: _, [] => rfl
  | x :: xs, y :: ys => by
    show (PySem.W.alike (.str x) (.str y) && PySem.W.alikeAll (xs.map .str) (ys.map .str)) = true
    rw [alike_strs xs ys]
    rfl
theorem depth_strs : ∀ l : List Str, PyData.depthAll (l.map .str) = 0
  | [] => rfl
  | x :: l => by show max 0 (PyData.depthAll (l.map .str)) = 0; rw [depth_strs l]; rfl
theorem dp_strs {K : PySem.W.Frag} {H : Hp} : ∀ l : List Str, DpAll K H (l.map V.str) (l.map .str)
  | [] => .nil
  | x :: l => .cons (.str x) (dp_strs l)
section
variable {P : Program} {w : World} {K : PySem.W.Frag}
theorem sort_LL : SortLL P w K := by
  intro X hc hP hw hK hu
  subst hK
  intro pins s σ H vs us Q I r h
  obtain ⟨a, L, rfl, hs, hL, hl, q⟩ := h
  rw [Vals.ref1 r]
  refine sort_gen (enc := fun p => .list (p.2.map .str)) I hs (fun p hp => .lst (hL p hp) (dp_strs _)) (PySem.W.AllAlike.of fun b b' => ?_) (PySem.W.Sortable.others fun b => ⟨fun z => (nomatch z), fun xs z => nomatch z⟩) hl (fun p _ => ?_) hu fun p hp => q _ p (List.mergeSort_perm _ _) hp
  · show PySem.W.alikeAll _ _ = true
    exact alike_strs _ _
  · show PyData.depthAll _ + 1 ≤ 5
    rw [depth_strs]
    decide
theorem wire_lt (e f : Wr) (h : wkey e ≠ wkey f) : PySem.W.dataLt (dWire e) (dWire f) = ltL (wkey e) (wkey f) := by
  show PySem.W.dataLt (.tuple [.str e.a, .str e.b, .int e.lo, .int e.hi]) (.tuple [.str f.a, .str f.b, .int f.lo, .int f.hi]) = (if e.a = f.a then (if e.b = f.b then false else decide (ltS e.b f.b)) else decide (ltS e.a f.a))
  rw [PySem.W.dataLt_tuple, PySem.W.dataLt_cons rfl, PySem.W.dataLt_cons rfl, PySem.W.dataLt_str, PySem.W.dataLt_str]
  have ev : ∀ a b : Str, PyData.eqv (.str a) (.str b) = decide (a = b) := fun a b => by
    show (a == b) = _
    by_cases h : a = b
    · rw [h, decide_eq_true rfl]; exact beq_iff_eq.mpr rfl
    · rw [decide_eq_false h]; exact beq_eq_false_iff_ne.mpr h
  rw [ev, ev]
  by_cases h1 : e.a = f.a
  · rw [if_pos (decide_eq_true h1), if_pos h1]
    by_cases h2 : e.b = f.b
    · exact absurd (by show [e.a, e.b] = [f.a, f.b]; rw [h1, h2]) h
    · rw [if_neg (by simpa using h2), if_neg h2]
  · rw [if_neg (by simpa using h1), if_neg h1]
theorem sort_W : SortW P w K := by
  intro X hc hP hw hK hu
  subst hK
  intro pins s σ H vs us Q I r h
  obtain ⟨a, L, rfl, hs, hL, hl, nd, q⟩ := h
  rw [Vals.ref1 r]
  refine sort_gen (enc := fun p => dWire p.2) I hs (fun p hp => .tup (Evl.st_of (hL p hp)) (.cons (.str _) (.cons (.str _) (.cons (.int _) (.cons (.int _) .nil))))) (PySem.W.AllAlike.of fun b b' => rfl) (PySem.W.Sortable.tuples fun b => ⟨_, _, rfl⟩) hl (fun p _ => show 1 ≤ 5 by decide) hu fun p hp => q _ p (List.mergeSort_perm _ _) ?_ hp
  have pm := List.mergeSort_perm L (PySem.W.dataLe false fun p => dWire p.2)
  have nd' : ((L.mergeSort (PySem.W.dataLe false fun p => dWire p.2)).map fun p => wkey p.2).Nodup := (pm.map _).nodup_iff.mpr nd
  have srt : (L.mergeSort (PySem.W.dataLe false fun p => dWire p.2)).Pairwise fun x y => PySem.W.dataLe false (fun p : Addr × Wr => dWire p.2) x y = true := by
    exact PySem.W.sort_pairwise (PySem.W.sortLe_total _ false _) L
  have nd2 := List.pairwise_map.mp nd'
  refine (srt.and nd2).imp fun {x y} h => ?_
  obtain ⟨h1, h2⟩ := h
  rw [PySem.W.dataLe_eq] at h1
  have h1 : (!PySem.W.dataLt (dWire y.2) (dWire x.2)) = true := h1
  rw [wire_lt _ _ (Ne.symm h2)] at h1
  exact ltL_tot _ _ (Ne.symm h2) (by simpa using h1)
end
end Nh

/-! list.sort of tuples of texts, empty ones among them -/
namespace Nh
open PySem PySem.Spec PyProof.Rows L2 Evl

/-- at a stands a tuple of these texts -/
def LotH (h : Heap) (a : Addr) (k : List Str) : Prop := ∃ o its n, h.get? a = some o ∧ o.cls = .type "tuple" ∧ o.data = .seq its n ∧ Vals (k.map V.str) its.toList
theorem LotH.keep {h h' : Heap} {a : Addr} {k : List Str} (l : LotH h a k) (e : ∀ o, h.get? a = some o → h'.get? a = some o) : LotH h' a k := by
  obtain ⟨o, its, n, h1, h2⟩ := l
  exact ⟨o, its, n, e o h1, h2⟩
theorem vals_str_uniq : ∀ {k m : List Str} {us : List Value}, Vals (k.map V.str) us → Vals (m.map V.str) us → k = m
  | [], [], _, _, _ => rfl
  | [], _ :: _, _, .nil, h => nomatch h
  | _ :: _, [], _, h, .nil => nomatch h
  | x :: k, y :: m, _, .cons a b, .cons c d => by
    obtain ⟨t, e⟩ := a
    obtain ⟨u, e'⟩ := c
    rw [e] at e'
    cases e'
    rw [vals_str_uniq b d]
theorem LotH.uniq {h : Heap} {a : Addr} {k m : List Str} (l : LotH h a k) (l' : LotH h a m) : k = m := by
  obtain ⟨o, its, n, h1, h2, h3, h4⟩ := l
  obtain ⟨o', its', n', h1', h2', h3', h4'⟩ := l'
  rw [h1] at h1'
  cases h1'
  rw [h3] at h3'
  cases h3'
  exact vals_str_uniq h4 h4'
section
variable {prog : Program} {w : World} {A : Around} {E : Value → Shared → Prop} {s : Shared}
theorem kat_strs {b : Bool} {Q : Bool → Shared → Prop} : ∀ (xs ys : List Str) (us vs : List Value) (i : Nat), Vals (xs.map V.str) us → Vals (ys.map V.str) vs → Q (ltL xs ys) s → PySem.W.KatLex prog w A b (decide (xs.length < ys.length)) Q (us.zip vs) i s
  | [], [], _, _, _, .nil, .nil, h => PySem.W.kat_nil h
  | [], y :: ys, _, _, _, .nil, .cons _ _, h => PySem.W.kat_nil (by rw [show decide (([] : List Str).length < (y :: ys).length) = true from decide_eq_true (Nat.succ_pos _)]; exact h)
  | x :: xs, [], _, _, _, .cons _ _, .nil, h => PySem.W.kat_nil (by rw [show decide ((x :: xs).length < ([] : List Str).length) = false from decide_eq_false (Nat.not_lt_zero _)]; exact h)
  | x :: xs, y :: ys, u :: us, v :: vs, i, .cons r1 r2, .cons r3 r4, h => by
    obtain ⟨t, rfl⟩ := r1
    obtain ⟨t', rfl⟩ := r3
    have h : Q (if x = y then ltL xs ys else decide (ltS x y)) s := h
    have ef : decide ((x :: xs).length < (y :: ys).length) = decide (xs.length < ys.length) := decide_eq_decide.mpr (by simp)
    rw [ef]
    refine PySem.W.kat_cons (SeqAt.EqAt.str_str x t y t' prog w _ _ ?_)
    refine PySem.W.kat_go (fun e1 => ?_) (fun e1 => ?_)
    · have ex : x = y := beq_iff_eq.mp e1
      rw [if_pos ex] at h
      exact PySem.W.kat_yes (kat_strs xs ys us vs (i + 1) r2 r4 h)
    · have ex : ¬ x = y := fun z => by rw [z] at e1; simp at e1
      rw [if_neg ex] at h
      refine PySem.W.kat_no ?_
      have h' : Q (decide (x.cps.toList < y.cps.toList)) s := h
      cases hb : (b && i == 0) with
      | true => exact oneLt_str h'
      | false => exact PySem.W.kat_one _ _ (PySem.P.lt_str (Q := PySem.W.BoolBack Q) h')
theorem lot_lt_at {a b : Addr} {k m : List Str} (h1 : LotH s.heap a k) (h2 : LotH s.heap b m) (hu : A.units < cLine) : Ob.RcOp .Lt A s (.ref a) (.ref b) (ltL k m) := by
  obtain ⟨o, its, n, p1, p2, p3, r1⟩ := h1
  obtain ⟨o', its2, n', q1, q2, q3, r2⟩ := h2
  have e1 : its.size = k.length := by have := r1.length; simp at this; omega
  have e2 : its2.size = m.length := by have := r2.length; simp at this; omega
  have R := Ob.RcOp.tuples_lt (A := A) (s := s) (l := a) (b := b) (items := its) (items2 := its2) (e := fun j => decide (k[j]? = m[j]?)) (r := fun j => decide (ltS (k.getD j ⟨#[]⟩) (m.getD j ⟨#[]⟩))) ⟨o, p1, p2, n, p3⟩ ⟨o', q1, q2, n', q3⟩ hu (fun j h1 h2 => by
    obtain ⟨t, et, en⟩ := strs_vals r1 j (by simpa using h1)
    obtain ⟨t', et', en'⟩ := strs_vals r2 j (by simpa using h2)
    simp only [Array.toArray_toList] at et et'
    rw [et, et', en, en', ← beq_dec]
    exact SeqAt.EqAt.str_str _ _ _ _) (fun j h1 h2 _ => by
    obtain ⟨t, et, en⟩ := strs_vals r1 j (by simpa using h1)
    obtain ⟨t', et', en'⟩ := strs_vals r2 j (by simpa using h2)
    simp only [Array.toArray_toList] at et et'
    rw [et, et']
    exact fun _ _ _ _ h => PySem.P.lt_str h)
  rw [e1, e2, lexAt_lt k m _ 0 (by omega)] at R
  exact R
theorem lot_call_lt {a b : Addr} {k m : List Str} {Q : Value → Shared → Prop} (h1 : LotH s.heap a k) (h2 : LotH s.heap b m) (h : Q (.bool (ltL k m)) s) : wpAny (model prog w) A (call (.builtin "tuple.__lt__") [.ref a, .ref b]) Q E s := by
  obtain ⟨⟨cls, dd, data, sl⟩, its, n, p1, p2, p3, r1⟩ := h1
  obtain ⟨⟨cls2, dd2, data2, sl2⟩, its2, n', q1, q2, q3, r2⟩ := h2
  simp only at p2 p3 q2 q3
  subst p2 p3 q2 q3
  have e1 : its.size = k.length := by have := r1.length; simp at this; omega
  have e2 : its2.size = m.length := by have := r2.length; simp at this; omega
  refine call_meets F.slot_tuple_lt ⟨_, p1, rfl⟩ F.entry_tuple_lt (F.args_tuple_lt_2 _ _) (Ob.tuple_ltAt a b its its2 n n' dd dd2 sl sl2 (fun j => decide (k[j]? = m[j]?)) (fun j => decide (ltS (k.getD j ⟨#[]⟩) (m.getD j ⟨#[]⟩)))) ⟨p1, q1, fun j h1 h2 => ?_, fun j h1 h2 _ => ?_, ?_⟩
  · obtain ⟨t, et, en⟩ := strs_vals r1 j (by simpa using h1)
    obtain ⟨t', et', en'⟩ := strs_vals r2 j (by simpa using h2)
    simp only [Array.toArray_toList] at et et'
    rw [et, et', en, en', ← beq_dec]
    exact SeqAt.EqAt.str_str _ _ _ _
  · obtain ⟨t, et, en⟩ := strs_vals r1 j (by simpa using h1)
    obtain ⟨t', et', en'⟩ := strs_vals r2 j (by simpa using h2)
    simp only [Array.toArray_toList] at et et'
    rw [et, et']
    exact fun _ _ _ _ h => PySem.P.lt_str h
  · rw [e1, e2, lexAt_lt k m _ 0 (by omega)]
    exact h
theorem lot_keyLt {κ : SortKind} (hκ : κ = tuples' true ∨ κ = general' ∨ κ = oneType') {a b : Addr} {k m : List Str} (h1 : LotH s.heap a k) (h2 : LotH s.heap b m) (hu : A.units < cLine) {Q : Bool → Shared → Prop} (h : Q (ltL k m) s) : wpAny (model prog w) A (keyLt' κ (.ref a) (.ref b)) Q E s := by
  rcases hκ with rfl | rfl | rfl
  · obtain ⟨o, its, n, p1, p2, p3, r1⟩ := h1
    obtain ⟨o', its2, n', q1, q2, q3, r2⟩ := h2
    refine PySem.W.kat_lt p1 p3 q1 q3 ?_
    have e1 : its.size = k.length := by have := r1.length; simp at this; omega
    have e2 : its2.size = m.length := by have := r2.length; simp at this; omega
    rw [e1, e2]
    exact kat_strs k m _ _ 0 r1 r2 h
  · show wpAny (model prog w) A (oneLt' false (.ref a) (.ref b)) Q E s
    exact PySem.W.kat_one _ _ (lot_lt_at h1 h2 hu prog w _ _ h)
  · rw [keyLt'_oneType, oneLt'_eq]
    simp only [if_true]
    refine wpAny_bind (wpAny_cRoomFor hu ?_)
    have ty : s.TypeIs (.ref a) "tuple" := by
      obtain ⟨o, its, n, p1, p2, _⟩ := h1
      exact ⟨_, p1, p2⟩
    refine wpAny_bind (wpAny_callSpecialIfBound?_slot (T := "tuple") ty F.slot_tuple_lt (lot_call_lt h1 h2 ?_))
    exact wpAny_truthy_bool h
end
end Nh

/-! list.sort of tuples of texts: its kind, the whole -/
namespace Nh
open PySem PySem.Spec PyProof.Rows L2 Evl
section
variable {M : Model} {A : Around} {s : Shared}
theorem lot_first {a : Addr} {k : List Str} (h : LotH s.heap a k) : ∃ fo : Option Value, fo.isSome = !k.isEmpty ∧ (∀ f, fo = some f → ∃ x t, f = Value.str x t) ∧ ∀ (Q : Option Value → Shared → Prop) (E : Value → Shared → Prop), Q fo s → wpAny M A (firstOfTuple' (.ref a)) Q E s := by
  obtain ⟨o, its, n, h1, h2, h3, r⟩ := h
  refine ⟨its[0]?, ?_, ?_, fun Q E q => ?_⟩
  · have : its.size = k.length := by have := r.length; simp at this; omega
    cases k with
    | nil => rw [Array.getElem?_eq_none (by rw [this]; exact Nat.le_refl 0)]; rfl
    | cons x k => rw [Array.getElem?_eq_getElem (by rw [this]; exact Nat.succ_pos _)]; rfl
  · intro f hf
    cases k with
    | nil =>
      have : its.size = 0 := by have := r.length; simp at this; omega
      rw [Array.getElem?_eq_none (by omega)] at hf
      cases hf
    | cons x k =>
      obtain ⟨u, hu, ru⟩ := r.get (i := 0) (x := .str x) rfl
      rw [Array.getElem?_toList] at hu
      rw [hu] at hf
      cases hf
      obtain ⟨t, rfl⟩ := ru
      exact ⟨x, t, rfl⟩
  · rw [PySem.W.kas_first_eq]
    refine wpAny_bind (PySem.W.Looks.here (show PySem.W.Looks M s.heap (typeOf (.ref a)) o.cls from (PySem.W.Looks.ld h1).andThen .now) ?_)
    rw [h2, if_neg (by decide)]
    exact wpAny_bind (listItems_at h1 h3 (wpAny_pure q))
theorem lots_firsts : ∀ (L : Lots), (∀ p ∈ L, LotH s.heap p.1 p.2) → ∃ fo : List (Option Value), fo.map (·.isSome) = L.map (fun p => !p.2.isEmpty) ∧ (∀ f, some f ∈ fo → ∃ x t, f = Value.str x t) ∧
    ∀ (Q : List (Option Value) → Shared → Prop) (E : Value → Shared → Prop), Q fo s → wpAny M A ((L.map fun p => Value.ref p.1).mapM firstOfTuple') Q E s
  | [], _ => ⟨[], rfl, (fun f h => nomatch h), fun Q E q => by rw [List.map_nil, List.mapM_nil]; exact wpAny_pure q⟩
  | p :: L, h => by
    obtain ⟨f, e1, e2, e3⟩ := lot_first (M := M) (A := A) (h p List.mem_cons_self)
    obtain ⟨fo, g1, g2, g3⟩ := lots_firsts L fun q hq => h q (List.mem_cons_of_mem _ hq)
    refine ⟨f :: fo, by rw [List.map_cons, List.map_cons, e1, g1], fun v hv => ?_, fun Q E q => ?_⟩
    · rcases List.mem_cons.mp hv with z | z
      · exact e2 v z.symm
      · exact g2 v z
    · rw [List.map_cons, List.mapM_cons]
      exact wpAny_bind (e3 _ _ (wpAny_bind (g3 _ _ (wpAny_pure q))))
theorem lots_one {L : Lots} (h0 : L ≠ []) (h : ∀ p ∈ L, LotH s.heap p.1 p.2) {E : Value → Shared → Prop} {Q : Option Value → Shared → Prop} (q : Q (some (.type "tuple")) s) : wpAny M A (oneTypeOnly' (L.map fun p => Value.ref p.1).toArray) Q E s := by
  rw [oneTypeOnly'_eq, List.mapM_toArray, map_eq_pure_bind]
  refine wpAny_bind (wpAny_bind (PySem.W.kas_mapM (r := Value.type "tuple") _ (fun v hv Q' hq => ?_) (wpAny_pure ?_)))
  · obtain ⟨p, hp, rfl⟩ := List.mem_map.mp hv
    obtain ⟨o, its, n, h1, h2, _⟩ := h p hp
    have : PySem.W.Looks M s.heap (typeOf (.ref p.1)) o.cls := (PySem.W.Looks.ld h1).andThen .now
    rw [h2] at this
    exact this.here hq
  · obtain ⟨p, L', rfl⟩ : ∃ p L', L = p :: L' := by
      cases L with
      | nil => exact absurd rfl h0
      | cons p L => exact ⟨p, L, rfl⟩
    have hall : ((List.map (fun _ => Value.type "tuple") ((p :: L').map fun p => Value.ref p.1)).toArray.all fun x => x == Value.type "tuple") = true := by
      simp only [List.all_toArray, List.all_map, List.all_eq_true]
      intro _ _
      rfl
    have h0 : (List.map (fun _ => Value.type "tuple") ((p :: L').map fun p => Value.ref p.1)).toArray[0]? = some (Value.type "tuple") := by simp
    rw [h0]
    simp only [hall, if_true]
    exact wpAny_pure q
theorem lots_kind {L : Lots} (h0 : L ≠ []) (h : ∀ p ∈ L, LotH s.heap p.1 p.2) : ∃ κ, (κ = tuples' true ∨ κ = general' ∨ κ = oneType') ∧ ∀ (Q : SortKind → Shared → Prop) (E : Value → Shared → Prop), Q κ s → wpAny M A (keyKind' (L.map fun p => Value.ref p.1).toArray) Q E s := by
  obtain ⟨fo, g1, g2, g3⟩ := lots_firsts (M := M) (A := A) L h
  obtain ⟨p, L', rfl⟩ : ∃ p L', L = p :: L' := by
    cases L with
    | nil => exact absurd rfl h0
    | cons p L => exact ⟨p, L, rfl⟩
  obtain ⟨f, fo', rfl⟩ : ∃ f fo', fo = f :: fo' := by
    cases fo with
    | nil => cases g1
    | cons f fo => exact ⟨f, fo, rfl⟩
  by_cases all : ((f :: fo').all fun x => x.isSome) = true
  · refine ⟨tuples' true, .inl rfl, fun Q E q => ?_⟩
    rw [keyKind'_eq, List.mapM_toArray, map_eq_pure_bind]
    refine wpAny_bind (wpAny_bind (g3 _ _ (wpAny_pure ?_)))
    rw [if_pos (by rw [List.all_toArray]; exact all)]
    refine wpAny_bind (wpAny_rule ?_)
    have hfm : ((f :: fo').toArray.filterMap id) = ((f :: fo').filterMap id).toArray := by simp
    rw [hfm, oneTypeOnly'_eq, List.mapM_toArray, map_eq_pure_bind]
    refine wpAny_bind (wpAny_bind (wpAny_bind (PySem.W.kas_mapM (r := Value.type "str") _ (fun v hv Q' hq => ?_) (wpAny_pure ?_))))
    · obtain ⟨y, hy, e⟩ := List.mem_filterMap.mp hv
      obtain ⟨x, t, rfl⟩ := g2 v (by rw [← show y = some v from e]; exact hy)
      exact PySem.W.Looks.now.here hq
    · obtain ⟨v, rfl⟩ : ∃ v, f = some v := by
        rw [List.all_cons, Bool.and_eq_true] at all
        exact Option.isSome_iff_exists.mp all.1
      have hall : ((List.map (fun _ => Value.type "str") ((some v :: fo').filterMap id)).toArray.all fun x => x == Value.type "str") = true := by
        simp only [List.all_toArray, List.all_map, List.all_eq_true]
        intro _ _
        rfl
      have h0 : (List.map (fun _ => Value.type "str") ((some v :: fo').filterMap id)).toArray[0]? = some (Value.type "str") := by simp
      rw [h0]
      simp only [hall, if_true]
      refine wpAny_pure (wpAny_pure ?_)
      have e : (Option.any (fun x => x != Value.type "tuple") (some (Value.type "str"))) = true := by rfl
      rw [e]
      exact q
  · by_cases first : f.isSome = true
    · refine ⟨general', .inr (.inl rfl), fun Q E q => ?_⟩
      rw [keyKind'_eq, List.mapM_toArray, map_eq_pure_bind]
      refine wpAny_bind (wpAny_bind (g3 _ _ (wpAny_pure ?_)))
      rw [if_neg (by rw [List.all_toArray]; exact all), if_pos (by simpa using first)]
      exact wpAny_pure q
    · refine ⟨oneType', .inr (.inr rfl), fun Q E q => ?_⟩
      rw [keyKind'_eq, List.mapM_toArray, map_eq_pure_bind]
      refine wpAny_bind (wpAny_bind (g3 _ _ (wpAny_pure ?_)))
      rw [if_neg (by rw [List.all_toArray]; exact all), if_neg (by simpa using first)]
      refine wpAny_bind (lots_one h0 h ?_)
      exact wpAny_pure q
end
/-- the texts of L's tuple at this place -/
def keyV (L : Lots) : Value → List Str
  | .ref a => ((L.find? fun p => p.1 == a).map (·.2)).getD []
  | _ => []
theorem keyV_at {h : Heap} {L : Lots} (hL : ∀ p ∈ L, LotH h p.1 p.2) {p : Addr × List Str} (hp : p ∈ L) : keyV L (.ref p.1) = p.2 := by
  show ((L.find? fun q => q.1 == p.1).map (·.2)).getD [] = _
  cases hf : L.find? fun q => q.1 == p.1 with
  | none =>
    have := List.find?_eq_none.mp hf p hp
    simp at this
  | some q =>
    have e : q.1 = p.1 := by simpa using List.find?_some hf
    have h1 := hL q (List.mem_of_find?_eq_some hf)
    rw [e] at h1
    exact h1.uniq (hL p hp)
theorem swo_lots (L : Lots) : SrtO.Swo fun u v => ltL (keyV L u) (keyV L v) := by
  refine ⟨fun x y h => ltL_asy _ _ h, fun x y z h1 h2 => ?_⟩
  by_cases e : keyV L z = keyV L x
  · rw [e]; exact ltL_irr _
  cases h3 : ltL (keyV L z) (keyV L x) with
  | false => rfl
  | true =>
    by_cases e1 : keyV L x = keyV L y
    · rw [e1] at h3
      rw [h2] at h3
      cases h3
    · have h4 : ltL (keyV L x) (keyV L y) = true := ltL_tot _ _ (Ne.symm e1) h1
      have := ltL_trans _ _ _ h3 h4
      rw [h2] at this
      cases this
section
variable {prog : Program} {w : World} {A : Around} {E : Value → Shared → Prop} {s : Shared}
theorem lots_sortable {a : Addr} {L : Lots} (h0 : L ≠ []) (hL : ∀ p ∈ L, LotH s.heap p.1 p.2) (ha : ∀ o, s.heap.get? a = some o → o.cls ≠ .type "tuple") (hu : A.units < cLine) : SrtO.SortableO prog w A s a (L.map fun p => Value.ref p.1) fun u v => ltL (keyV L u) (keyV L v) := by
  intro h' keep
  have hL' : ∀ p ∈ L, LotH h' p.1 p.2 := fun p hp => (hL p hp).keep fun o ho => keep p.1 o (fun z => by
    obtain ⟨o', its, n, h1, h2, _⟩ := hL p hp
    rw [z] at h1
    exact ha o' h1 h2) ho
  obtain ⟨κ, hκ, hk⟩ := lots_kind (M := model prog w) (A := A) (s := { s with heap := h' }) h0 hL'
  refine ⟨κ, fun Q E q => hk Q E q, fun p q hp hq => ?_⟩
  obtain ⟨x, hx, ex⟩ := List.mem_map.mp hp
  obtain ⟨y, hy, ey⟩ := List.mem_map.mp hq
  show wpAny (model prog w) A (keyLt' κ p.1 q.1) (fun r s' => s' = { s with heap := h' } ∧ r = ltL (keyV L p.1) (keyV L q.1)) (fun _ _ => False) _
  rw [← ex, ← ey, keyV_at hL hx, keyV_at hL hy]
  exact lot_keyLt hκ (s := { s with heap := h' }) (hL' x hx) (hL' y hy) hu ⟨rfl, rfl⟩
end
/-- what comes out, as L in another order -/
theorem out_lots {L : Lots} {out : List Value} (h : out.Perm (L.map fun p => Value.ref p.1)) : ∃ L' : Lots, L'.Perm L ∧ out = L'.map fun p => Value.ref p.1 := by
  have m : L.map (fun p => Value.ref p.1) = L.map fun p => Value.ref p.1 := rfl
  obtain ⟨zs, p, q⟩ := L2.perm_lift (fun p : Addr × List Str => Value.ref p.1) h L rfl
  exact ⟨zs, p, q.symm⟩
end Nh

/-! sorted(d.keys()), the keys tuples of texts -/
namespace Nh
open PySem PySem.Spec PyProof.Rows L2 Evl
theorem kv_strs (k : List Str) : (sk k).map kV = k.map V.str := by
  rw [List.map_map]
  rfl
theorem lots_keys {H : Hp} : ∀ {kvs : List (List Key × V)} {bs : List Addr} {ks : List (List Str)}, IsKeys H kvs bs → kvs.map (·.1) = ks.map sk → ∃ L : Lots, bs = L.map (·.1) ∧ L.map (·.2) = ks ∧ LotsAt H L
  | [], _, [], .nil, _ => ⟨[], rfl, rfl, fun p hp => nomatch hp⟩
  | [], _, _ :: _, _, h => nomatch h
  | _ :: _, _, [], _, h => nomatch h
  | p :: kvs, b :: bs, k :: ks, .cons h1 h2, h => by
    have e1 : p.1 = sk k := (List.cons.inj h).1
    obtain ⟨L, g1, g2, g3⟩ := lots_keys h2 (List.cons.inj h).2
    refine ⟨(b, k) :: L, by rw [g1]; rfl, by rw [← g2]; rfl, fun q hq => ?_⟩
    rcases List.mem_cons.mp hq with rfl | hq
    · have h1 : H b = some (.tup (p.1.map kV)) := h1
      rw [e1, kv_strs] at h1
      exact h1
    · exact g3 q hq
section
variable {X : Cx} {pins : List (Addr × Obj)} {σ : L2.St} {H : Hp} {s : Shared}
theorem lotH_of (I : Inv X pins σ H s) {a : Addr} {k : List Str} (h : H a = some (.tup (k.map V.str))) : LotH s.heap a k := by
  obtain ⟨its, r, ⟨o, ho, hc, n, hd⟩, _⟩ := I.tuple (Evl.st_of (K := X.K) h)
  exact ⟨o, its.toArray, n, ho, hc, hd, by simpa using r⟩
/-- sorted(v), by what it collects -/
theorem sorted_of {v : Value} {L : Lots} {Q : VK} (I : Inv X pins σ H s) (hL : LotsAt H L) (hl : L.length < 60) (hu : X.A.units + 64 < cLine)
    (hcol : ∀ (R : List Value → Shared → Prop) (E' : Value → Shared → Prop), (∀ (s1 : Shared) (L1 : Lots), Inv X pins σ H s1 → L1.Perm L → R (L1.map fun p => Value.ref p.1) s1) → wpAny (model X.prog X.w) X.A.in1 (collect v) R E' s)
    (q : ∀ (L' : Lots) (p : Addr), L'.Perm L → (L'.Pairwise fun a b => ltL b.2 a.2 = false) → H p = none → Q (.ref p) (upd H p (.lst (L'.map fun q => V.ref q.1)))) :
    wpAny (model X.prog X.w) X.A (call (.builtin "sorted") [v]) (EP X pins σ Q) X.xe s := by
  refine Calls.call_function_entry PyProof.Rows.kind_sorted PyProof.Rows.plain_sorted PyProof.Rows.entry_sorted (PyProof.Rows.args_sorted1 _) ?_
  unfold Builtin.«sorted»
  refine wpAny_bind (m := checkCount "sorted" 1 1 _) (wpAny_pure ?_)
  refine wpAny_bind (hcol _ _ fun s1 L1 I1 pm1 => ?_)
  have hL1 : LotsAt H L1 := fun p hp => hL p (pm1.mem_iff.mp hp)
  have hl1 : L1.length < 60 := by rw [pm1.length_eq]; exact hl
  have hlen : (L1.map fun p => Value.ref p.1).length = L1.length := List.length_map _
  refine wpAny_bind (wpAny_newList ?_ (by rw [hlen, sizeLine_eq]; omega))
  have hoL : (s1.heap.push (seqObj "list" (L1.map fun p => Value.ref p.1).toArray 0)).get? s1.heap.objs.size = some (seqObj "list" (L1.map fun p => Value.ref p.1).toArray 0) := Heap.get?_push_size _ rfl
  show wpAny _ _ _ _ _ { s1 with heap := s1.heap.push (seqObj "list" (L1.map fun p => Value.ref p.1).toArray 0) }
  have hLp : ∀ p ∈ L1, LotH (s1.heap.push (seqObj "list" (L1.map fun p => Value.ref p.1).toArray 0)) p.1 p.2 := fun p hp => (lotH_of I1 (hL1 p hp)).keep fun o ho => Heap.get?_push_of_some _ ho
  refine wpAny_bind (wpAny_holding (wpAny_call_entry PyProof.Rows.slot_list_sort ⟨_, hoL, rfl⟩ PyProof.Rows.entry_list_sort
    (SrtO.list_sort_ord (s := { s1 with heap := s1.heap.push (seqObj "list" (L1.map fun p => Value.ref p.1).toArray 0) }) (swo_lots L1) hoL (by rw [hlen, sizeLine_eq]; omega) (fun h2 => lots_sortable (fun z => by rw [z] at h2; simp at h2) hLp (fun o ho => ?_) (by show X.A.units + 1 + 1 < cLine; omega)) fun out hs hb => ⟨_, rfl, ?_⟩)
    (PyProof.Rows.args_list_sort _)))
  · have : some o = some (seqObj "list" (L1.map fun p => Value.ref p.1).toArray 0) := ho.symm.trans hoL
    cases this
    exact fun z => absurd (Value.type.inj z) (by decide)
  obtain ⟨L', pm, rfl⟩ := out_lots hb.perm
  have pw : L'.Pairwise fun a b => ltL b.2 a.2 = false := by
    have hs' : (L'.map fun p => Value.ref p.1).Pairwise fun x y => ltL (keyV L1 y) (keyV L1 x) = false := hs
    refine (List.pairwise_map.mp hs').imp_of_mem fun {a b} ha hb h => ?_
    rw [keyV_at hLp (pm.mem_iff.mp ha), keyV_at hLp (pm.mem_iff.mp hb)] at h
    exact h
  obtain ⟨e', he'⟩ := PyProof.Rows.sortedHeap_at (vs := L1.map fun p => Value.ref p.1) (out := (L'.map fun p => Value.ref p.1).toArray) hoL
  have hz : (L'.map fun p => V.ref p.1).length ≤ sizeLine := by rw [List.length_map, pm.length_eq, sizeLine_eq]; omega
  refine wpAny_pure ⟨_, rfl, .ref s1.heap.objs.size, upd H s1.heap.objs.size (.lst (L'.map fun p => V.ref p.1)), I1.laid (t' := s1.toks) (fun b u e => ?_) (Nat.le_refl _)
    (show ObjOk X.prog X.w _ _ _ (.lst (L'.map fun p => V.ref p.1)) from ⟨hz, L'.map fun p => Value.ref p.1, e', vals_refs _, he'⟩), rfl, q L' _ (pm.trans pm1) pw (I1.hok.fresh (Nat.le_refl _))⟩
  have hb : b < s1.heap.objs.size := Heap.lt_size e
  rw [PyProof.Rows.sortedHeap_old (Nat.ne_of_lt hb) (by rw [size_push']; exact Nat.lt_succ_of_lt hb)]
  exact Heap.get?_push_of_some _ e
end
section
variable {P : Program} {w : World} {K : PySem.W.Frag}
theorem sort_keys : SortKeys P w K := by
  intro X e te p1 p2 p3 p4 hc hP hw hK hu hg hm he hbase hline hstar
  subst hK
  refine ⟨fun pins s σ H Q I h => ?_⟩
  refine Call_ (ld_blt I hg hm (show bootBuiltins "sorted" = some (.builtin "sorted") by decide +kernel) ?_)
  refine PyProof.Rows.callWith_builtin1 (PyProof.Rows.args_cons ?_ hstar) hstar rfl
  refine wpAny_Call_method (T := "dict") (id := "dict.keys") hbase rfl hline F.plainAttrs_dict F.slot_dict_keys F.type_dict_keys (thn (he.run pins s σ H _ I h) fun u s1 ⟨x, H1, I1, rx, d, kvs, ks, ex, hd, hk, hl, q⟩ => ?_)
  subst ex
  obtain rfl : u = Value.ref d := rx
  obtain ⟨z, hs, xs, rel, o, es, ep, ho, hx, hdat, hes, his, hn⟩ := dt_of I1.hok hd
  have raw : s1.heap.DictRaw d es ep := ⟨o, ho, hx, hdat⟩
  obtain ⟨L, e1, e2, hL⟩ := lots_keys (isKeys_of rel) hk
  refine ⟨raw.typeIs, fun a ea => by cases ea; exact ⟨o, ho, hx.2.1⟩, ?_⟩
  have I2 : Inv X pins σ H1 { s1 with heap := s1.heap.push { cls := .type "dict_keys", data := .fields #[.ref d] } } := I1.kept (t' := s1.toks) fun b ob q => Heap.get?_push_of_some _ q
  have l1 : es.size = xs.length := size_of_entries hes
  have l2 : kvs.length = xs.length := Paired.length rel
  have l3 : L.length = xs.length := by
    have := congrArg List.length e1
    rw [List.length_map, List.length_map] at this
    exact this.symm
  have l4 : L.length = ks.length := by rw [← e2, List.length_map]
  have fin : wpAny (model X.prog X.w) X.A (call (.builtin "sorted") [.ref s1.heap.objs.size]) (EP X pins σ Q) X.xe { s1 with heap := s1.heap.push { cls := .type "dict_keys", data := .fields #[.ref d] } } := by
    refine sorted_of I2 hL (by omega) hu (fun R E' hR => ?_) fun L' p pm pw hp => q L' p ?_ (fun r hr => hL r (pm.mem_iff.mp hr)) pw hp
    · refine PySem.W.kdu_collect (A := X.A.in1) (s := { s1 with heap := s1.heap.push { cls := .type "dict_keys", data := .fields #[.ref d] } }) (KdlSrc.rawKeys (prog := X.prog) (w := X.w) (r := s1.heap.objs.size) (d := d) (es := es) (ep := ep)) (I.ok.hd hc) ⟨⟨_, Heap.get?_push_size _ rfl, rfl, rfl⟩, raw.push _⟩ (by rw [sizeLine_eq]; omega) fun h' tk acc hk' it => ?_
      have ea : acc.toList = L.map fun p => Value.ref p.1 := by
        have hl' : acc.toList.length = L.length := by rw [Array.length_toList, it.1]; omega
        have eL : (L.map fun p => Value.ref p.1) = xs.map fun x => Value.ref x.2.1 := by
          have := congrArg (List.map Value.ref) e1
          rw [List.map_map, List.map_map] at this
          exact this.symm
        rw [eL]
        apply List.ext_getElem?
        intro j
        rw [List.getElem?_map]
        cases hj : acc.toList[j]? with
        | none =>
          have h1 := List.getElem?_eq_none_iff.mp hj
          rw [List.getElem?_eq_none (by omega)]
          rfl
        | some v =>
          obtain ⟨en, hv⟩ := it.2 j v (by rw [← Array.getElem?_toList]; exact hj)
          have qe := entry_at hes j
          rw [Array.getElem?_eq_getElem en] at qe
          cases hb : xs[j]? with
          | none =>
            rw [hb] at qe
            exact nomatch (show some es[j] = none from qe)
          | some b =>
            rw [hb] at qe
            have e2 : es[j] = entryOfKey (tupleKind (mixKind X.prog X.w)) b := Option.some.inj qe
            rw [hv, e2]
            rfl
      rw [ea]
      exact hR _ L (I2.kept hk') (List.Perm.refl _)
    · rw [← e2]
      exact pm.map _
  show wpAny _ _ (callWith p3 (.builtin "dict.keys") [.ref d] [] []) _ X.xe s1
  exact method_meetsIn F.slot_dict_keys F.entry_dict_keys rfl (PySem.evalArgs_none ⟨rfl, raw.typeIs, F.args_dict_keys_1 _, _, meets_dict_keys_raw d hs, ⟨es, ep, raw⟩, PyProof.Rows.args_nil fin⟩)
end
end Nh

/-! dict([(lot, True), ..]) -/
namespace Nh
open PySem PySem.Spec PyProof.Rows L2 Evl
theorem put_all {H : Hp} : ∀ (ps : List (Addr × Addr × List Str)) (kvs : List (List Key × V)) (xs : List (List Key × Addr × Value)) (ks : List (List Str)), (∀ p ∈ ps, H p.2.1 = some (.tup (p.2.2.map V.str))) → KT H kvs xs → kvs.map (·.1) = ks.map sk →
    ∃ (kvs' : List (List Key × V)) (ks' : List (List Str)), KT H kvs' (storedAllH xs (ps.map fun p => (sk p.2.2, p.2.1, Value.bool true))) ∧ kvs'.map (·.1) = ks'.map sk ∧ ∀ k, k ∈ ks' ↔ k ∈ ks ∨ k ∈ ps.map fun p => p.2.2
  | [], kvs, xs, ks, _, r, hk => ⟨kvs, ks, r, hk, fun k => by simp⟩
  | p :: ps, kvs, xs, ks, hp, r, hk => by
    have h1 : H p.2.1 = some (.tup ((sk p.2.2).map kV)) := by rw [kv_strs]; exact hp p List.mem_cons_self
    obtain ⟨kvs', ks', g1, g2, g3⟩ := put_all ps _ _ _ (fun q hq => hp q (List.mem_cons_of_mem _ hq)) (r.put (sk p.2.2) h1 (show RelV (.bl true) (.bool true) from rfl)) (known_put hk p.2.2 (.bl true))
    refine ⟨kvs', ks', g1, g2, fun k => ?_⟩
    rw [g3, mem_addK, List.map_cons, List.mem_cons]
    constructor
    · rintro ((h | h) | h)
      · exact .inl h
      · exact .inr (.inl h)
      · exact .inr (.inr h)
    · rintro (h | h | h)
      · exact .inl (.inl h)
      · exact .inl (.inr h)
      · exact .inr h
section
variable {P : Program} {w : World} {K : PySem.W.Frag}
theorem dict_T : DictT P w K := by
  intro X hc hP hw hK hu
  subst hK
  intro pins s σ H vs us Q I r h
  obtain ⟨a, ps, rfl, hs, hps, hl, q⟩ := h
  rw [Vals.ref1 r]
  obtain ⟨its, rv, pl, hz⟩ := I.list hs
  have e1 := refs_eq rv
  subst e1
  obtain ⟨o, n, ho, hcl, hdi, hda⟩ := pl
  have key : ∀ h' : Heap, (∀ b ob, s.heap.get? b = some ob → h'.get? b = some ob) → ∀ p ∈ ps, (tupleKind (mixKind X.prog X.w)).is h' (sk p.2.2) p.2.1 := fun h' hk p hp => by
    have I1 : Inv X pins σ H { s with heap := h' } := I.kept (t' := s.toks) hk
    exact key_of I1.hok (by rw [kv_strs]; exact (hps p hp).2)
  obtain ⟨kvs, ks, g1, g2, g3⟩ := put_all (H := H) ps [] [] [] (fun p hp => (hps p hp).2) .nil rfl
  refine call_dict_pairsH (knd := tupleKind (mixKind X.prog X.w)) (ps := ps.map fun p => (sk p.2.2, p.2.1, Value.bool true)) (PairArg.list a (ps.map fun p => Value.ref p.1).toArray (fun j => ((ps.map (·.1))[j]?).getD 0) (ps.map fun p => (Value.ref p.2.1, Value.bool true))) (I.ok.hd hc) (by show X.A.units + 1 + 1 < cLine; omega) ⟨⟨o, n, ho, hcl, hdi, hda⟩, by simp, fun j k v hj => ?_⟩ ⟨by simp, fun i k v hi => ?_⟩ (fun h' hk x hx => ?_) (by rw [List.length_map, sizeLine_eq]; omega) fun h' tk hd' hk => ?_
  · rw [List.getElem?_map] at hj
    cases hp : ps[j]? with
    | none => rw [hp] at hj; cases hj
    | some p =>
      rw [hp] at hj
      cases hj
      obtain ⟨t1, t2⟩ := hps p (List.mem_of_getElem? hp)
      refine ⟨by simp [hp], .inl ?_⟩
      have ej : ((ps.map (·.1))[j]?).getD 0 = p.1 := by rw [List.getElem?_map, hp]; rfl
      show s.heap.IsTuple (((ps.map (·.1))[j]?).getD 0) _
      rw [ej]
      obtain ⟨its, rv', ht, _⟩ := I.tuple (Evl.st_of (K := X.K) t1)
      cases rv' with
      | cons r1 r2 =>
        cases r2 with
        | cons r3 r4 =>
          cases r4
          cases r1
          cases r3
          exact ht
  · have hi : (ps.map fun p => (Value.ref p.2.1, Value.bool true))[i]? = some (k, v) := hi
    rw [List.getElem?_map] at hi
    cases hp : ps[i]? with
    | none => rw [hp] at hi; cases hi
    | some p =>
      rw [hp] at hi
      cases hi
      exact ⟨sk p.2.2, p.2.1, by rw [List.getElem?_map, hp]; rfl, rfl⟩
  · obtain ⟨p, hp, rfl⟩ := List.mem_map.mp hx
    exact key h' (fun b ob e => hk b ob (Nat.ne_of_lt (Heap.lt_size e)) (fun z => nomatch z) e) p hp
  · have hn : H s.heap.objs.size = none := I.hok.fresh (Nat.le_refl _)
    have hm : (s.heap.objs.size == sysModules) = false := beq_eq_false_iff_ne.mpr (Nat.ne_of_gt I.big)
    have hlen : kvs.length ≤ sizeLine := by
      have l1 : kvs.length = (storedAllH [] (ps.map fun p => (sk p.2.2, p.2.1, Value.bool true))).length := Paired.length g1
      have l2 := storedAllH_length (ps.map fun p => (sk p.2.2, p.2.1, Value.bool true)) []
      rw [List.length_map, List.length_nil] at l2
      rw [l1, sizeLine_eq]
      omega
    obtain ⟨o', es, ep, k1, k2, k3, k4, _, k5⟩ := hd'
    refine ⟨.ref s.heap.objs.size, upd H s.heap.objs.size (.dT kvs), I.laid (t' := tk) (fun b ob e => hk b ob (fun z => nomatch z) e) (Nat.le_refl _) (show ObjOk X.prog X.w _ _ _ (.dT kvs) from ⟨hlen, hm, _, g1.keeps (fun b ys e => by rw [upd_ne (ne_of_none e hn)]; exact e), o', es, ep, k1, k2, k3, k4, k5⟩), rfl, q _ kvs ks hn g2 fun k => by rw [g3]; simp⟩
end
end Nh

/-! a set of tuples of texts -/
namespace Nh
open PySem PySem.Spec PyProof.Rows L2 Evl
section
variable {P : Program} {w : World} {K : PySem.W.Frag}
/-- the set at a: its rows, its table -/
structure TxSet (P : Program) (w : World) (h : Heap) (a : Addr) (L : Lots) (es : Array (Int × Value)) (ep : Nat) (t : SetTable) : Prop where
  obj : ∃ o, h.get? a = some o ∧ o.ExactSet ∧ o.data = .set es ep t
  rws : es.toList = lotRows P w L
  tbl : TabOk t (L.map fun p => lhash P w p.2)
  lts : ∀ p ∈ L, IsLot P w h p.2 p.1
  ldd : w.params.followText "set-order" = true ∨ t.led = true
  rm : L.length * 5 < t.mask * 3
  fw : L.length < 60
theorem TxSet.num {h : Heap} {a : Addr} {L : Lots} {es : Array (Int × Value)} {ep : Nat} {t : SetTable} (T : TxSet P w h a L es ep t) : es.size = L.length := by
  rw [← Array.length_toList, T.rws]
  exact List.length_map _
theorem fit_of {L : Lots} {es : Array (Int × Value)} {t : SetTable} (T : TabOk t (L.map fun p => lhash P w p.2)) (hn : es.size = L.length) (hr : L.length * 5 < t.mask * 3) : t.fits es.size = true := by
  have l1 : t.place.size = (L.map fun p => lhash P w p.2).length := T.sz
  rw [List.length_map] at l1
  have goal : (t.place.size == es.size && decide (t.place.size + t.dummies.size ≤ t.mask)) = true := by
    rw [T.dm, l1, hn, beq_self_eq_true, Bool.true_and]
    exact decide_eq_true (by show L.length + 0 ≤ t.mask; omega)
  exact goal
theorem sorted_set {X : Cx} (hc : X.calm = true) (hP : X.prog = P) (hw : X.w = w) (hu : X.A.units + 64 < cLine) : CallR X (.builtin "sorted") (rSortS P w) := by
  subst hP hw
  intro pins s σ H vs us Q I r h
  obtain ⟨a, L, rfl, ha, hL, q⟩ := h
  rw [Vals.ref1 r]
  obtain ⟨es, ep, t, ⟨o, ho, hex, hd⟩, hrw, T, ld, hr, hf⟩ := (show LotSet0 X.prog X.w s.heap a L from (I.hok a _ ha).1).ex
  have hn : es.size = L.length := by
    rw [← Array.length_toList, hrw]
    exact List.length_map _
  refine sorted_of I hL hf hu (fun R E' hR => ?_) fun L' p pm _ hp => q L' p pm hp
  refine collect_set (A := X.A.in1) (I.ok.hd hc) ⟨o, ho, hex.1, hd⟩ (fit_of T hn hr) (by unfold scanBound; omega) T.ris ld fun s1 vs k1 hz g1 o1 pm => ?_
  have e : es.toList.map (·.2) = L.map fun p => Value.ref p.1 := by
    rw [hrw]
    exact List.map_map ..
  rw [e] at pm
  obtain ⟨L1, pm1, rfl⟩ := out_lots pm
  have J : Inv X pins σ H { s with heap := s1.heap, gens := s1.gens, drawn := s1.drawn, toks := s1.toks } :=
    I.call (ch := []) (Un.kept k1) (I.kept (t' := s.toks) k1).hok (by rw [g1]; exact I.bare) (fun _ z => nomatch z)
  have es : s1 = { s with heap := s1.heap, gens := s1.gens, drawn := s1.drawn, toks := s1.toks } := by
    cases s1
    cases o1
    rfl
  rw [es]
  exact hR _ L1 J pm1
end
end Nh

/-! a set of tuples of texts: small questions, the search -/
namespace Nh
open PySem PySem.Spec PyProof.Rows L2 Evl
section
variable {P : Program} {w : World} {A : Around} {E : Value → Shared → Prop} {s : Shared}
theorem isLot_of {h : Heap} {b : Addr} {k : List Str} (l : LotH h b k) : IsLot P w h k b := by
  obtain ⟨o, its, n, h1, h2, h3, r⟩ := l
  refine ⟨o, its, n, h1, h2, h3, ?_⟩
  have key : ∀ {k : List Str} {us : List Value}, Vals (k.map V.str) us → ItemsAre (strKind P w) k us := by
    intro k
    induction k with
    | nil => intro us v; cases v; exact .nil
    | cons x k ih =>
      intro us v
      cases v with
      | cons r1 r2 =>
        obtain ⟨t, rfl⟩ := r1
        exact .cons (strKind_is P w x t) (ih r2)
  exact key r
theorem lot_texts {h : Heap} {b : Addr} {k : List Str} (l : IsLot P w h k b) : ∃ o its n, h.get? b = some o ∧ o.cls = .type "tuple" ∧ o.data = .seq its n ∧ ∀ v ∈ its.toList, ∃ x t, v = Value.str x t := by
  obtain ⟨o, its, n, h1, h2, h3, it⟩ := l
  refine ⟨o, its, n, h1, h2, h3, ?_⟩
  generalize its.toList = us at it
  induction it with
  | nil => exact fun v hv => nomatch hv
  | cons e _ ih =>
    intro v hv
    rcases List.mem_cons.mp hv with rfl | hv
    · obtain ⟨t, e⟩ := Value.isStrOf_shape e
      exact ⟨_, t, e⟩
    · exact ih v hv
theorem texts_loop {M : Model} {f : Value → Option Bool × Unit → Sem (ForInStep (Option Bool × Unit))} {R : Option Bool × Unit → Shared → Prop} (hf : ∀ x t, f (.str x t) (none, ()) = pure (.yield (none, ()))) :
    ∀ us : List Value, (∀ v ∈ us, ∃ x t, v = Value.str x t) → R (none, ()) s → wpAny M A (forIn us (none, ()) f) R E s
  | [], _, r => by rw [List.forIn_nil]; exact wpAny_pure r
  | v :: us, h, r => by
    obtain ⟨x, t, rfl⟩ := h v List.mem_cons_self
    rw [List.forIn_cons, hf]
    exact wpAny_bind (wpAny_pure (texts_loop hf us (fun u hu => h u (List.mem_cons_of_mem _ hu)) r))
/-- no item of such a tuple is of a class statement -/
theorem no_class {b : Addr} {k : List Str} {Q : Bool → Shared → Prop} (l : IsLot P w s.heap k b) (q : Q false s) : wpAny (model P w) A (ofAClassStatement 8 (.ref b)) Q E s := by
  obtain ⟨o, its, n, h1, h2, h3, tx⟩ := lot_texts l
  have ty : s.TypeIs (.ref b) "tuple" := ⟨o, h1, h2⟩
  unfold ofAClassStatement
  refine wpAny_bind (wpAny_typeOf ty ?_)
  have tt : (("tuple" : String) == "tuple") = true := rfl
  simp only [tt, if_true, Bool.not_true, Bool.false_eq_true, if_false, pure_bind]
  refine wpAny_bind (wpAny_seqItems h1 h3 ?_)
  simp only [← Array.forIn_toList]
  exact wpAny_bind (texts_loop (fun x t => rfl) _ tx (wpAny_pure q))
/-- whether it is hashed by value is told (and does not matter) -/
theorem by_value {b : Addr} {k : List Str} {Q : Bool → Shared → Prop} (l : IsLot P w s.heap k b) (q : ∀ y, Q y s) : wpAny (model P w) A (hashByValue 8 (.ref b)) Q E s := by
  obtain ⟨o, its, n, h1, h2, h3, tx⟩ := lot_texts l
  have ty : s.TypeIs (.ref b) "tuple" := ⟨o, h1, h2⟩
  unfold hashByValue
  refine wpAny_bind (wpAny_specialOf ty F.slot_tuple_hash.lookup ?_)
  refine wpAny_bind (wpAny_seqItems h1 h3 ?_)
  simp only [Option.getD_some, ← Array.forIn_toList]
  cases hus : its.toList with
  | nil =>
    rw [List.forIn_nil]
    exact wpAny_bind (wpAny_pure (wpAny_pure (q true)))
  | cons v us =>
    obtain ⟨x, t, rfl⟩ := tx v (by rw [hus]; exact List.mem_cons_self)
    rw [List.forIn_cons]
    exact wpAny_bind (wpAny_bind (wpAny_pure (wpAny_pure (wpAny_pure (q false)))))
/-- what a search among them asks -/
theorem not_seen {b : Addr} {k : List Str} {Q : Bool → Shared → Prop} (l : IsLot P w s.heap k b) (q : Q false s) : ∀ ys : List Value, (∀ y ∈ ys, ∃ m c, y = Value.ref c ∧ IsLot P w s.heap m c) → wpAny (model P w) A (searchCouldBeSeen (.ref b) ys) Q E s := by
  intro ys hys
  unfold searchCouldBeSeen
  refine wpAny_bind (wpAny_forIn_list _ (fun us r s2 => r = (none, ()) ∧ s2 = s ∧ ∀ y ∈ us, ∃ m c, y = Value.ref c ∧ IsLot P w s.heap m c) _ (fun y us r s2 hr => ?_) (fun r s2 hr => ?_) ys _ ⟨rfl, rfl, hys⟩)
  · obtain ⟨rfl, rfl, hu⟩ := hr
    obtain ⟨m, c, rfl, lc⟩ := hu y List.mem_cons_self
    have go : (fun r s' => match r with | .yield b' => b' = ((none, ()) : Option Bool × Unit) ∧ s' = s2 ∧ ∀ y ∈ us, ∃ m c, y = Value.ref c ∧ IsLot P w s2.heap m c | .done b' => True) (ForInStep.yield ((none, ()) : Option Bool × Unit)) s2 := ⟨rfl, rfl, fun z hz => hu z (List.mem_cons_of_mem _ hz)⟩
    dsimp only
    split
    · exact wpAny_pure ⟨rfl, rfl, go.2.2⟩
    · refine wpAny_bind (wpAny_eqIsQuiet_tuple l ?_)
      simp only [Bool.not_true, Bool.false_eq_true, if_false]
      refine wpAny_bind (wpAny_eqIsQuiet_tuple lc ?_)
      simp only [Bool.not_true, Bool.false_eq_true, if_false]
      refine wpAny_bind (no_class l ?_)
      simp only [Bool.false_eq_true, if_false]
      refine wpAny_bind (no_class lc ?_)
      simp only [Bool.false_eq_true, if_false]
      exact wpAny_pure ⟨rfl, rfl, go.2.2⟩
  · obtain ⟨rfl, rfl, _⟩ := hr
    exact wpAny_pure q
end
end Nh

/-! a set of tuples of texts: the search for a place -/
namespace Nh
open PySem PySem.Spec PyProof.Rows L2 Evl
section
variable {P : Program} {w : World} {A : Around} {E : Value → Shared → Prop} {s : Shared} {a : Addr} {L : Lots} {es : Array (Int × Value)} {ep : Nat} {t : SetTable}
theorem TxSet.row (T : TxSet P w s.heap a L es ep t) {i : Nat} {p : Addr × List Str} (h : L[i]? = some p) : es[i]? = some (lhash P w p.2, Value.ref p.1) := by
  have e : es.toList[i]? = some (lhash P w p.2, Value.ref p.1) := by
    rw [T.rws]
    show (L.map _)[i]? = _
    rw [List.getElem?_map, h]
    rfl
  rwa [Array.getElem?_toList] at e
theorem no_dummy (m : Nat) : ∀ (n : Nat) (p : SetTable.Probe), p.dummy = none → (nth m p n).dummy = none
  | 0, _, h => h
  | n + 1, p, h => no_dummy m n (adv m p) (by unfold adv; split <;> exact h)
/-- the n-th probe of the hash g -/
abbrev prb (m : Nat) (g : Int) (n : Nat) : SetTable.Probe := nth m (runAt m (SetTable.bits g % (m + 1)) (SetTable.bits g)) n
/-- from the c-th probe on: the tuple is found, or the first free place (N steps away) is -/
theorem seek (T : TxSet P w s.heap a L es ep t) {x : Addr} {k : List Str} (hx : IsLot P w s.heap k x) (hu : A.units < cLine) {N : Nat} (hN : N < 10 * SetTable.turns t.mask)
    (free : way t.mask (lhash P w k) N ∉ t.place.toList) (full : ∀ c, c < N → way t.mask (lhash P w k) c ∈ t.place.toList) {Q : SetFound → Shared → Prop}
    (old : k ∈ L.map (·.2) → Q (.there none) s) (new : Q (.free (way t.mask (lhash P w k) N) false) s) :
    ∀ (fuel c : Nat) (st : Option SetTable.Probe), st.getD (t.probeStart (lhash P w k)) = prb t.mask (lhash P w k) c → c ≤ N → N < c + fuel →
      wpAny (model P w) A (setSearchFrom a (.ref x) (lhash P w k) true fuel st) Q E s := by
  intro fuel
  induction fuel with
  | zero => intro c st _ h1 h2; omega
  | succ fuel ih =>
    intro c st hst hc hf
    obtain ⟨o, ho, hex, hd⟩ := T.obj
    have fits := fit_of T.tbl T.num T.rm
    generalize hg : lhash P w k = g at *
    have along : ∀ n, nth t.mask (prb t.mask g c) n = prb t.mask g (c + n) := fun n => (nth_add t.mask c _ n).symm
    have alongJ : ∀ n, (nth t.mask (prb t.mask g c) n).j = way t.mask g (c + n) := fun n => by rw [along]
    rw [setSearchFrom_succ]
    refine wpAny_bind (wpAny_setState_of ho hd fits ?_)
    dsimp only
    have alive : t.gaveWay = false := by
      show (t.mask % 2 == 0) = false
      rw [mask_odd T.tbl.mok]
      rfl
    simp only [alive, Bool.false_eq_true, if_false, pure_bind]
    rcases go_spec t T.tbl.ris T.tbl.dm (fun i => (es[i]?.map (·.1)).getD 0) g (10 * SetTable.turns t.mask) (N - c) (prb t.mask g c) (no_dummy _ _ _ rfl) (by omega) (fun n hn => by rw [alongJ]; exact full _ (by omega)) (by rw [alongJ, Nat.add_sub_cancel' hc]; exact free) with ⟨n, i, hn, hi, hh, hno, hpr⟩ | ⟨hno, hpr⟩
    · -- an entry with this hash
      have met : t.probe (fun i => (es[i]?.map (·.1)).getD 0) g (st.getD (t.probeStart g)) = some (.candidate (way t.mask g (c + n)) i (prb t.mask g (c + (n + 1)))) := by
        rw [hst, ← alongJ, ← along]
        exact hpr
      rw [met]
      dsimp only
      rw [alongJ] at hi
      obtain ⟨p, hp⟩ : ∃ p, L[i]? = some p := by
        have h1 := (List.getElem?_eq_some_iff.mp hi).1
        have h2 : t.place.size = (L.map fun p => lhash P w p.2).length := T.tbl.sz
        rw [List.length_map] at h2
        rw [Array.length_toList] at h1
        exact ⟨L[i]'(by omega), List.getElem?_eq_getElem (by omega)⟩
      have pm : p ∈ L := List.mem_of_getElem? hp
      have look : wpAny (model P w) A (searchRest a (.ref x) g true fuel es t (way t.mask g (c + n)) i (prb t.mask g (c + (n + 1)))) Q E s := by
        unfold searchRest
        rw [T.row hp]
        dsimp only
        refine wpAny_bind (wpAny_holding (wpAny_eqBool_tuple hu (T.lts p pm) hx (wpAny_bind (wpAny_setState_of ho hd fits ?_))))
        by_cases same : p.2 = k
        · simp only [same, decide_true, Bool.and_self, if_true]
          exact wpAny_pure (old (List.mem_map.mpr ⟨p, pm, same⟩))
        · simp only [same, decide_false, Bool.and_false, Bool.false_eq_true, if_false, pure_bind]
          have here : t.slot (way t.mask g (c + n)) = .live i := slot_live T.tbl.ris hi
          rw [sameMem]
          simp only [if_true, here, T.row hp]
          refine wpAny_bind (wpAny_isSame_ref_self (wpAny_bind (wpAny_pure ?_)))
          exact ih (c + (n + 1)) _ rfl (by omega) (by omega)
      cases hled : t.led with
      | true =>
        simp only [Bool.not_true, Bool.false_eq_true, if_false, pure_bind]
        exact look
      | false =>
        simp only [Bool.not_false, if_true]
        refine wpAny_bind (not_seen hx ?_ _ fun y hy => ?_)
        · simp only [Bool.false_eq_true, if_false, pure_bind]
          exact look
        · obtain ⟨e, he, rfl⟩ := List.mem_map.mp hy
          have he' : e ∈ es := (Array.mem_filter.mp (Array.mem_toList_iff.mp he)).1
          have he2 : e ∈ es.toList := Array.mem_toList_iff.mpr he'
          rw [T.rws] at he2
          obtain ⟨p, hp, rfl⟩ := List.mem_map.mp he2
          exact ⟨p.2, p.1, rfl, T.lts p hp⟩
    · -- the free place
      have met : t.probe (fun i => (es[i]?.map (·.1)).getD 0) g (st.getD (t.probeStart g)) = some (.empty (way t.mask g N) none) := by
        have e : way t.mask g N = (nth t.mask (prb t.mask g c) (N - c)).j := by rw [alongJ, Nat.add_sub_cancel' hc]
        rw [hst, e]
        exact hpr
      rw [met]
      exact wpAny_pure new
/-- .. from its start -/
theorem seek_all (T : TxSet P w s.heap a L es ep t) {x : Addr} {k : List Str} (hx : IsLot P w s.heap k x) (hu : A.units < cLine) {Q : SetFound → Shared → Prop}
    (old : k ∈ L.map (·.2) → Q (.there none) s) (new : ∀ N, way t.mask (lhash P w k) N ∉ t.place.toList → (∀ c, c < N → way t.mask (lhash P w k) c ∈ t.place.toList) → Q (.free (way t.mask (lhash P w k) N) false) s) :
    wpAny (model P w) A (setSearch a (.ref x) (lhash P w k) true) Q E s := by
  have r := T.rm
  obtain ⟨N, h1, h2, h3⟩ := T.tbl.first (by rw [List.length_map]; omega) (lhash P w k)
  have few : 10 * SetTable.turns t.mask ≤ 1420 := by
    rcases T.tbl.mok with e | e | e <;> rw [e] <;> decide
  unfold setSearch
  exact seek T hx hu h1 h2 h3 old (new N h2 h3) 100000 0 none rfl (Nat.zero_le _) (by omega)
end
end Nh

/-! a set of tuples of texts: laid anew, added to -/
namespace Nh
open PySem PySem.Spec PyProof.Rows L2 Evl
section
variable {P : Program} {w : World} {A : Around} {E : Value → Shared → Prop} {s : Shared} {a : Addr} {L : Lots} {es : Array (Int × Value)} {ep : Nat} {t : SetTable}
theorem picks_all {α : Type} (l : List α) : ∀ n, (List.range n).filterMap (fun i => l[i]?) = l.take n
  | 0 => rfl
  | n + 1 => by
    rw [List.range_succ, List.filterMap_append, picks_all l n, List.take_succ]
    congr 1
theorem picked (hr : es.toList = lotRows P w L) {order : Array Nat} (hp : order.toList.Perm (List.range L.length)) : ∃ L2 : Lots, L2.Perm L ∧ (order.filterMap (es[·]?)).toList = lotRows P w L2 ∧ (order.toList.map fun i => (es.map (·.1)).getD i 0) = L2.map fun p => lhash P w p.2 := by
  have at_ : ∀ i : Nat, es[i]? = (L[i]?).map fun p => (lhash P w p.2, Value.ref p.1) := fun i => by
    rw [← Array.getElem?_toList, hr]
    exact List.getElem?_map
  refine ⟨order.toList.filterMap (fun i => L[i]?), ?_, ?_, ?_⟩
  · have := hp.filterMap (fun i => L[i]?)
    rw [picks_all, List.take_length] at this
    exact this
  · rw [Array.toList_filterMap]
    show _ = (order.toList.filterMap fun i => L[i]?).map _
    rw [List.map_filterMap]
    exact congrArg (fun f => order.toList.filterMap f) (funext at_)
  · have inside : ∀ i ∈ order.toList, i < L.length := fun i hi => List.mem_range.mp (hp.mem_iff.mp hi)
    generalize order.toList = l at inside
    induction l with
    | nil => rfl
    | cons i l ih =>
      have hi := inside i List.mem_cons_self
      rw [List.filterMap_cons_some (List.getElem?_eq_getElem hi), List.map_cons, List.map_cons, ih fun j hj => inside j (List.mem_cons_of_mem _ hj)]
      congr 1
      have e := at_ i
      rw [List.getElem?_eq_getElem hi] at e
      rw [Array.getD_eq_getD_getElem?, Array.getElem?_map, e]
      rfl
theorem lot_stays {h h' : Heap} {k : List Str} {b : Addr} {o : Obj} (l : IsLot P w h k b) (ho : h.get? a = some o) (hd : o.data = .set es ep t) (hs : Heap.SameBut a h h') : IsLot P w h' k b := by
  obtain ⟨o', its, n, h1, h2, h3, h4⟩ := l
  by_cases e : b = a
  · rw [e] at h1
    rw [h1] at ho
    cases ho
    rw [hd] at h3
    cases h3
  · exact ⟨o', its, n, by rw [hs.2 b e]; exact h1, h2, h3, h4⟩
/-- the table, laid anew -/
theorem anew {o : Obj} (ho : s.heap.get? a = some o) (hex : o.ExactSet) (hd : o.data = .set es ep t) (hr : es.toList = lotRows P w L) (hn : es.size = L.length) (T : TabOk t (L.map fun p => lhash P w p.2)) (hfl : L.length ≤ t.mask) (hl : ∀ p ∈ L, IsLot P w s.heap p.2 p.1)
    (ld : w.params.followText "set-order" = true ∨ t.led = true) (few : L.length < 60) {wanted M : Nat} (hw : SetTable.sizeAbove wanted - 1 = M) (hM : MaskOk M) (h128 : SetTable.sizeAbove wanted ≤ 128) (rm : L.length * 5 < M * 3) {Q : Unit → Shared → Prop}
    (q : ∀ h' L' es' ep' t', Heap.SameBut a s.heap h' → TxSet P w h' a L' es' ep' t' → L'.Perm L → Q () { s with heap := h' }) : wpAny (model P w) A (setRelay a wanted) Q E s := by
  have fits : t.fits es.size = true := by
    have l1 : t.place.size = (L.map fun p => lhash P w p.2).length := T.sz
    rw [List.length_map] at l1
    have goal : (t.place.size == es.size && decide (t.place.size + t.dummies.size ≤ t.mask)) = true := by
      rw [T.dm, l1, hn, beq_self_eq_true, Bool.true_and]
      exact decide_eq_true (by show L.length + 0 ≤ t.mask; omega)
    exact goal
  have hsz : (es.map (·.1)).size = L.length := by rw [Array.size_map]; exact hn
  obtain ⟨t2, order, g1, g2, g3, g4, g5, _, _⟩ := relaid_ok t (hs := es.map (·.1)) hw hM (by omega)
  rw [hsz] at g2
  obtain ⟨L2, pm, r1, r2⟩ := picked hr g2
  rw [r2] at g3
  have n2 : (order.filterMap (es[·]?)).size = L.length := by
    rw [← Array.length_toList, r1, ← pm.length_eq]
    exact List.length_map _
  rw [setRelay_eq]
  refine wpAny_bind (wpAny_setState_of ho hd fits ?_)
  have small : ¬ SetTable.sizeAbove wanted > sizeLine := by rw [sizeLine_eq]; omega
  have whole : ((order.filterMap (es[·]?)).size != es.size) = false := by rw [n2, hn]; exact bne_self_eq_false _
  simp only [small, if_false, pure_bind, g1, whole, Bool.false_eq_true]
  refine wpAny_storeSet_of ho hd ?_ (by rw [n2, sizeLine_eq]; omega)
  have sb : Heap.SameBut a s.heap (s.heap.update a (Obj.putSet (order.filterMap (es[·]?)) t2)) := Heap.SameBut.update ..
  exact q _ L2 _ (ep + 1) t2 sb ⟨⟨_, store_at ho hd, ⟨hex.1, hex.2.1, hex.2.2⟩, rfl⟩, r1, g3, fun p hp => lot_stays (hl p (pm.mem_iff.mp hp)) ho hd sb, by rw [g5]; exact ld, by rw [pm.length_eq, g4]; exact rm, by rw [pm.length_eq]; exact few⟩ pm
/-- a tuple is added -/
theorem put_in (T : TxSet P w s.heap a L es ep t) {x : Addr} {k : List Str} (hx : IsLot P w s.heap k x) (hu : A.units < cLine) (few : L.length + 1 < 60) {Q : Bool → Shared → Prop}
    (q : ∀ y h' L' es' ep' t', Heap.SameBut a s.heap h' → TxSet P w h' a L' es' ep' t' → ((k ∈ L.map (·.2) ∧ L' = L) ∨ L'.Perm ((x, k) :: L)) → Q y { s with heap := h' }) :
    wpAny (model P w) A (setAddHashed a (.ref x) (lhash P w k)) Q E s := by
  obtain ⟨o, ho, hex, hd⟩ := T.obj
  have num := T.num
  have rm := T.rm
  have fits := fit_of T.tbl num rm
  unfold setAddHashed
  refine wpAny_holding ?_
  rw [show (100000 : Nat) = 99999 + 1 from rfl, setAddHashedIn_succ]
  refine wpAny_bind (wpAny_setState_of ho hd fits ?_)
  have noscan : byScan (.ref x) es = false := by simp [byScan, Value.scannable]
  simp only [noscan, Bool.false_eq_true, if_false, pure_bind]
  refine wpAny_bind (seek_all T hx hu (fun m => ?_) fun N free full => ?_)
  · exact wpAny_pure (q false s.heap L es ep t (Heap.SameBut.refl a s.heap) T (.inl ⟨m, rfl⟩))
  · refine wpAny_bind (wpAny_setState_of ho hd fits ?_)
    obtain ⟨p1, p2, p3, p4, p5, p6, p7, p8, p9⟩ := T.tbl.put free full
    generalize way t.mask (lhash P w k) N = j at *
    have pm := List.perm_middle (a := (x, k)) (l₁ := L.take (SetTable.below t.place j)) (l₂ := L.drop (SetTable.below t.place j))
    rw [List.take_append_drop] at pm
    have hh : ((L.map fun p => lhash P w p.2).take (SetTable.below t.place j) ++ lhash P w k :: (L.map fun p => lhash P w p.2).drop (SetTable.below t.place j)) = (L.take (SetTable.below t.place j) ++ (x, k) :: L.drop (SetTable.below t.place j)).map fun p => lhash P w p.2 := by
      rw [List.map_append, List.map_cons, List.map_take, List.map_drop]
    have hrw : (SetTable.insertAt es (SetTable.below t.place j) (lhash P w k, Value.ref x)).toList = lotRows P w (L.take (SetTable.below t.place j) ++ (x, k) :: L.drop (SetTable.below t.place j)) := by
      rw [SetTable.toList_insertAt, T.rws]
      unfold lotRows
      rw [List.map_append, List.map_cons, List.map_take, List.map_drop]
    rw [hh] at p3
    rw [List.length_map] at p9
    dsimp only
    rw [p1]
    generalize SetTable.insertAt es (SetTable.below t.place j) (lhash P w k, Value.ref x) = es1 at hrw ⊢
    generalize L.take (SetTable.below t.place j) ++ (x, k) :: L.drop (SetTable.below t.place j) = L1 at pm hrw p3
    have n1 : es1.size = L1.length := by
      rw [← Array.length_toList, hrw]
      exact List.length_map _
    have l1 : L1.length = L.length + 1 := pm.length_eq
    have fin : ∀ t1 : SetTable, TabOk t1 (L1.map fun p => lhash P w p.2) → t1.mask = t.mask → t1.led = t.led → t1.fill = L.length + 1 →
        wpAny (model P w) A (storeSet a es1 t1 >>= fun _ => if (!false && t1.tooFull) = true then (setRelay a (SetTable.grown (es.size + 1)) >>= fun _ => pure true) else pure true) Q E s := by
      intro t1 T1 hm hled hfill
      refine wpAny_bind (wpAny_storeSet_of ho hd ?_ (by rw [n1, l1, sizeLine_eq]; omega))
      have sb : Heap.SameBut a s.heap (s.heap.update a (Obj.putSet es1 t1)) := Heap.SameBut.update ..
      have ob := store_at (es' := es1) (t' := t1) ho hd
      have lots1 : ∀ p ∈ L1, IsLot P w (s.heap.update a (Obj.putSet es1 t1)) p.2 p.1 := fun p hp => by
        rcases List.mem_cons.mp (pm.mem_iff.mp hp) with rfl | hp
        · exact lot_stays hx ho hd sb
        · exact lot_stays (T.lts p hp) ho hd sb
      have ld : w.params.followText "set-order" = true ∨ t1.led = true := by rw [hled]; exact T.ldd
      have full : t1.tooFull = decide ((L.length + 1) * 5 ≥ t.mask * 3) := by
        show decide (t1.fill * 5 ≥ t1.mask * 3) = _
        rw [hfill, hm]
      generalize s.heap.update a (Obj.putSet es1 t1) = h1 at sb ob lots1 ⊢
      rw [full]
      by_cases big : (L.length + 1) * 5 ≥ t.mask * 3
      · simp only [big, decide_true, Bool.not_false, Bool.and_self, if_true]
        have two : (t.mask = 7 ∧ L.length = 4) ∨ (t.mask = 31 ∧ L.length = 18) := by
          rcases T.tbl.mok with e | e | e
          · exact .inl ⟨e, by omega⟩
          · exact .inr ⟨e, by omega⟩
          · omega
        have go : ∀ M, SetTable.sizeAbove (SetTable.grown (es.size + 1)) - 1 = M → MaskOk M → SetTable.sizeAbove (SetTable.grown (es.size + 1)) ≤ 128 → L1.length * 5 < M * 3 → wpAny (model P w) A (setRelay a (SetTable.grown (es.size + 1)) >>= fun _ => pure true) Q E { s with heap := h1 } := fun M g1 g2 g3 g4 =>
          wpAny_bind (anew (s := { s with heap := h1 }) ob ⟨hex.1, hex.2.1, hex.2.2⟩ rfl hrw n1 T1 (by rw [l1, hm]; rcases two with ⟨e, e2⟩ | ⟨e, e2⟩ <;> omega) lots1 ld (by omega) g1 g2 g3 g4 fun h' L' es' ep' t' sb2 T2 pm2 => wpAny_pure (q true h' L' es' ep' t' (sb.trans sb2) T2 (.inr (pm2.trans pm))))
        rw [num] at go ⊢
        rcases two with ⟨_, e⟩ | ⟨_, e⟩
        · rw [e] at go ⊢
          exact go 31 (by rw [size_20]) (.inr (.inl rfl)) (by rw [size_20]; decide) (by omega)
        · rw [e] at go ⊢
          exact go 127 (by rw [size_76]) (.inr (.inr rfl)) (by rw [size_76]; decide) (by omega)
      · simp only [big, decide_false, Bool.and_false, Bool.false_eq_true, if_false]
        exact wpAny_pure (q true h1 L1 es1 (ep + 1) t1 sb ⟨⟨_, ob, ⟨hex.1, hex.2.1, hex.2.2⟩, rfl⟩, hrw, T1, lots1, ld, by rw [l1, hm]; omega, by omega⟩ (.inr pm))
    have T2 : TabOk { (t.put j).1 with plain := false } (L1.map fun p => lhash P w p.2) := ⟨p3.ris, p3.dm, p3.sz, p3.mok, p3.bd, p3.reach⟩
    by_cases pl : (t.put j).1.plain = true
    · rw [if_pos pl]
      refine wpAny_bind (by_value hx fun y => ?_)
      cases y with
      | true => exact fin _ p3 p4 p5 p9
      | false => exact fin _ T2 p4 p5 p9
    · rw [if_neg pl]
      simp only [if_true]
      exact fin _ p3 p4 p5 p9
end
end Nh

/-! set([lot, ..]) -/
namespace Nh
open PySem PySem.Spec PyProof.Rows L2 Evl
/-- L: what i items of ks have left in the set -/
structure Upto (ks L : Lots) (i : Nat) : Prop where
  sub : ∀ p ∈ L, p ∈ ks
  all : ∀ (j : Nat) p, j < i → ks[j]? = some p → p.2 ∈ L.map (·.2)
  len : L.length ≤ i
theorem Upto.step {ks L L' : Lots} {i : Nat} {x : Addr × List Str} (g : Upto ks L i) (h : ks[i]? = some x) (c : (x.2 ∈ L.map (·.2) ∧ L' = L) ∨ L'.Perm (x :: L)) : Upto ks L' (i + 1) := by
  rcases c with ⟨m, rfl⟩ | pm
  · refine ⟨g.sub, fun j p hj e => ?_, Nat.le_succ_of_le g.len⟩
    by_cases ji : j = i
    · rw [ji, h] at e
      cases e
      exact m
    · exact g.all j p (by omega) e
  · refine ⟨fun p hp => ?_, fun j p hj e => (pm.map (·.2)).mem_iff.mpr ?_, by rw [pm.length_eq]; exact Nat.succ_le_succ g.len⟩
    · rcases List.mem_cons.mp (pm.mem_iff.mp hp) with rfl | hp
      · exact List.mem_of_getElem? h
      · exact g.sub p hp
    · rw [List.map_cons, List.mem_cons]
      by_cases ji : j = i
      · rw [ji, h] at e
        cases e
        exact .inl rfl
      · exact .inr (g.all j p (by omega) e)
section
variable {P : Program} {w : World} {A : Around} {E : Value → Shared → Prop} {s : Shared}
theorem lot_kept {h h' : Heap} {k : List Str} {b : Addr} (l : IsLot P w h k b) (e : ∀ c o, h.get? c = some o → h'.get? c = some o) : IsLot P w h' k b := by
  obtain ⟨o, its, n, h1, r⟩ := l
  exact ⟨o, its, n, e b o h1, r⟩
theorem TxSet.moved {h h' : Heap} {a : Addr} {L : Lots} {es : Array (Int × Value)} {ep : Nat} {t : SetTable} (T : TxSet P w h a L es ep t) (ha : ∀ o, h.get? a = some o → h'.get? a = some o) (hl : ∀ p ∈ L, IsLot P w h' p.2 p.1) : TxSet P w h' a L es ep t := by
  obtain ⟨o, ho, r⟩ := T.obj
  exact { T with obj := ⟨o, ha o ho, r⟩, lts := hl }
/-- the loop of set.update -/
theorem fill {I S : Addr} {fp wr : List Addr} {G : Array GenState → Array GenState → Prop} {n : Nat} {Pv : Nat → Value → Prop} {St : Nat → Shared → Prop} {R : Result → Shared → Prop} (W : WalksS P w A.in1 I fp wr G n Pv St) (off : S ∉ fp) {ks : Lots} (hn : n = ks.length) (few : ks.length < 60)
    (vals : ∀ i v, Pv i v → ∃ p, ks[i]? = some p ∧ v = .ref p.1) {h0 : Heap} (lots : ∀ p ∈ ks, IsLot P w h0 p.2 p.1) (new : h0.get? S = none) (newW : ∀ b ∈ wr, h0.get? b = none) (hu : A.in1.units < cLine) :
    ∀ (m i : Nat) (s : Shared), i + m = n → St i s → (∀ b o, h0.get? b = some o → s.heap.get? b = some o) → (∃ L es ep t, TxSet P w s.heap S L es ep t ∧ Upto ks L i) →
      (∀ s' L es ep t, Moved (S :: wr) G s s' → TxSet P w s'.heap S L es ep t → Upto ks L n → (∀ b o, h0.get? b = some o → s'.heap.get? b = some o) → R (.ok (.ret .none)) s') →
      codeAny (model P w) A (.builtin "set.update.loop" ⟨[.ref S, .ref I], []⟩) R s := by
  have notW : S ∉ wr := fun z => off (W.sub _ z)
  have more : ∀ b ∈ wr, b ∈ S :: wr := fun b hb => List.mem_cons_of_mem _ hb
  have stay : ∀ {s1 s2 : Shared}, Moved wr G s1 s2 → (∀ b o, h0.get? b = some o → s1.heap.get? b = some o) → ∀ b o, h0.get? b = some o → s2.heap.get? b = some o := fun mv k b o e =>
    mv.heap b o (fun z => by rw [newW b z] at e; cases e) (k b o e)
  intro m
  induction m with
  | zero =>
    rintro i s him hst hk ⟨L, es, ep, t, T, g⟩ fin
    obtain rfl : i = n := him
    refine codeAny_builtin F.entry_set_update_loop ?_
    rw [Around.under_plainId F.plain_set_update_loop _]
    refine wpAny_bind (W.done s _ _ hst fun s2 mv => wpAny_pure (fin s2 L es ep t (mv.mono more) ?_ g (stay mv hk)))
    exact T.moved (fun o e => mv.heap S o notW e) fun p hp => lot_kept (lots p (g.sub p hp)) (stay mv hk)
  | succ m ih =>
    rintro i s him hst hk ⟨L, es, ep, t, T, g⟩ fin
    have hin : i < n := by omega
    refine codeAny_builtin F.entry_set_update_loop ?_
    rw [Around.under_plainId F.plain_set_update_loop _]
    refine wpAny_bind (W.item i s _ _ hin hst fun v s2 hv hst2 mv => ?_)
    obtain ⟨p, hp, rfl⟩ := vals i v hv
    have hk2 := stay mv hk
    have hx : IsLot P w s2.heap p.2 p.1 := lot_kept (lots p (List.mem_of_getElem? hp)) hk2
    have T2 : TxSet P w s2.heap S L es ep t := T.moved (fun o e => mv.heap S o notW e) fun q hq => lot_kept (lots q (g.sub q hq)) hk2
    show wpAny _ A.in1 (holding [Value.ref p.1] (setAdd S (.ref p.1)) >>= _) _ _ s2
    unfold setAdd
    refine wpAny_bind (wpAny_holding (wpAny_holding (wpAny_bind (wpAny_pyHash_tuple hu hx ?_))))
    refine put_in (s := { s2 with toks := s2.toks + (p.2.length + 1) }) T2 hx hu (by have := g.len; omega) fun y h' L' es' ep' t' sb T3 c => ?_
    have hk3 : ∀ b o, h0.get? b = some o → h'.get? b = some o := fun b o e => by
      have ne : b ≠ S := fun z => by rw [z, new] at e; cases e
      rw [sb.2 b ne]
      exact hk2 b o e
    refine wpAny_pure ⟨plainId_quiet F.plain_set_update_loop _, ih (i + 1) _ (by omega) (W.frame _ s2 _ _ hst2 (Nat.le_add_right _ _) fun b hb o e => ?_) hk3 ⟨L', es', ep', t', T3, g.step hp c⟩ fun s3 L3 es3 ep3 t3 mv3 T4 g4 hk4 => fin s3 L3 es3 ep3 t3 (Moved.trans W.gtrans ((mv.mono more).then_heap (Nat.le_add_right _ _) fun b o hb e => ?_) mv3) T4 g4 hk4⟩
    · have ne : b ≠ S := fun z => off (by rw [← z]; exact hb)
      rw [sb.2 b ne]
      exact e
    · have ne : b ≠ S := fun z => hb (by rw [z]; exact List.mem_cons_self)
      rw [sb.2 b ne]
      exact e
end
end Nh

/-! set([lot, ..]): the call -/
namespace Nh
open PySem PySem.Spec PyProof.Rows L2 Evl
abbrev freshTab (w : World) : SetTable := .fresh 0 0 (!w.params.followText "set-order")
abbrev freshSet (w : World) : Obj := { cls := .type "set", dict := none, data := .set #[] 0 (freshTab w) }
section
variable {P : Program} {w : World} {A : Around} {E : Value → Shared → Prop} {s : Shared}
theorem txSet_fresh {h : Heap} {a : Addr} (e : h.get? a = some (freshSet w)) : TxSet P w h a [] #[] 0 (freshTab w) := by
  refine ⟨⟨_, e, ⟨rfl, rfl, rfl⟩, rfl⟩, rfl, ⟨.nil, rfl, rfl, .inl rfl, (fun x z => nomatch z), fun i g j z => by simp at z⟩, (fun p z => nomatch z), ?_, (by decide : 0 * 5 < 7 * 3), (by decide : 0 < 60)⟩
  show _ ∨ (!w.params.followText "set-order") = true
  cases w.params.followText "set-order" <;> simp
theorem make_set {l : Addr} {items : Array Value} {ks : Lots} {Q : Value → Shared → Prop} (hh : A.handled = none) (hl : s.heap.IsList l items) (hit : items.toList = ks.map fun p => Value.ref p.1) (lots : ∀ p ∈ ks, IsLot P w s.heap p.2 p.1) (few : ks.length < 60) (hu : A.units + 3 < cLine)
    (q : ∀ (h' : Heap) (tk : Nat) L es ep t, TxSet P w h' s.heap.objs.size L es ep t → Upto ks L ks.length → (∀ b o, s.heap.get? b = some o → h'.get? b = some o) → Q (.ref s.heap.objs.size) { s with heap := h', toks := tk }) :
    wpAny (model P w) A (call (.type "set") [.ref l]) Q E s := by
  have num : items.size = ks.length := by
    rw [← Array.length_toList, hit]
    exact List.length_map _
  obtain ⟨mc, mt, mro⟩ := F.called_set.mro
  have made := F.called_set.made
  have under := F.called_set.sub
  have notT := F.called_set.notType
  have mayMake := F.called_set.canCreate
  have checked := F.typeCall_set_1 (.ref l)
  refine wpAny_call (codeAny_of_tree (wpAny_pure ⟨Code.quiet_builtin _ (by decide +kernel), codeAny_builtin F.entry_type_call ?_⟩))
  rw [Around.under_plain (weight_type_call_type "set" [.ref l] []) rfl]
  repeat (any_goals (first | assumption | wp_step))
  refine codeAny_mono (code_set_led1 (.ref l) (E := E) (Q₁ := fun x s1 => x = .ref s.heap.objs.size ∧ s1 = { s with heap := s.heap.push (freshSet w) }) ⟨rfl, rfl⟩) fun r s1 hr => ?_
  match r, hr with
  | .error _, hr => exact hr
  | .ok .next, hr => exact hr.elim
  | .ok .brk, hr => exact hr.elim
  | .ok .cont, hr => exact hr.elim
  | .ok (.ret x), ⟨ex, es1⟩ =>
    subst ex es1
    have at0 : (s.heap.push (freshSet w)).get? s.heap.objs.size = some (freshSet w) := Heap.get?_push_size _ rfl
    have isSet : Shared.TypeIs { s with heap := s.heap.push (freshSet w) } (.ref s.heap.objs.size) "set" := ⟨_, at0, rfl⟩
    have initL := F.called_set.init.lookup
    have initB := F.called_set.init.bind (.ref s.heap.objs.size)
    repeat (any_goals (first | assumption | wp_step))
    refine codeAny_mono (codeAny_call_builtin (R := wants (fun x s2 => x = Value.none ∧ ∃ h' tk L es ep t, s2 = { s with heap := h', toks := tk } ∧ TxSet P w h' s.heap.objs.size L es ep t ∧ Upto ks L ks.length ∧ ∀ b o, s.heap.get? b = some o → h'.get? b = some o) E)
      F.called_set.init.plain F.entry_set_init (check_set_init_1 isSet ?_)) fun r2 s2 hr2 => ?_
    · clear q made under notT mayMake checked initL initB
      obtain ⟨⟨lc, ld, lda, lsl⟩, lo, l1, ln, l2⟩ := id hl
      simp only at l1 l2
      subst l1 l2
      have lo1 := Heap.get?_push_of_some (freshSet w) lo
      have hl1 : (s.heap.push (freshSet w)).IsList l items := ⟨_, lo1, rfl, ln, rfl⟩
      have u1 := F.sub_list_set
      have u2 := F.sub_list_frozenset
      have u3 : (Value.type "list" == Value.type "dict") = false := by decide
      unfold Builtin.«set.__init__» noKeywords Builtin.Frozenset.updateFrom
      generalize ePI : pyIter = PI
      wp_walk
      subst ePI
      refine wpAny_pyIter_list hl1 (wpAny_bind (wpAny_runValue ?_))
      have below : l < s.heap.objs.size := Heap.lt_size lo
      have calm3 : A.in1.in1.in1.handled = none := by simp [hh]
      have size1 : (s.heap.push (freshSet w)).objs.size = s.heap.objs.size + 1 := Heap.size_push ..
      have nothing : ∀ b, s.heap.objs.size ≤ b → s.heap.get? b = none := fun b hb => by
        cases e : s.heap.get? b with
        | none => rfl
        | some o => exact absurd (Nat.lt_of_lt_of_le (Heap.lt_size e) hb) (Nat.lt_irrefl _)
      have vals : ∀ (i : Nat) (v : Value), items[i]? = some v → ∃ p, ks[i]? = some p ∧ v = .ref p.1 := fun i v hv => by
        rw [← Array.getElem?_toList, hit, List.getElem?_map] at hv
        cases e : ks[i]? with
        | none => rw [e] at hv; cases hv
        | some p => rw [e] at hv; cases hv; exact ⟨p, rfl, rfl⟩
      refine fill ((Walks.list calm3 (s.heap.push (freshSet w)).objs.size l (by rw [size1]; exact Nat.ne_of_lt (Nat.lt_succ_of_lt below)) items).toS) (S := s.heap.objs.size) (fun z => by
        rw [size1] at z
        rcases List.mem_cons.mp z with z | z
        · exact Nat.ne_of_lt (Nat.lt_succ_self _) z
        · exact Nat.ne_of_gt below (List.mem_singleton.mp z)) num few vals lots (nothing _ (Nat.le_refl _)) (fun b hb => nothing b (by rw [List.mem_singleton.mp hb, size1]; exact Nat.le_succ _)) hu items.size 0 _ (Nat.zero_add _)
        ⟨⟨_, Heap.get?_push_size _ rfl, rfl, rfl⟩, hl1.push _⟩ (fun b o e => Heap.get?_push_of_some _ (Heap.get?_push_of_some _ e)) ⟨[], #[], 0, _, txSet_fresh (Heap.get?_push_of_some _ at0), (fun p z => nomatch z), (fun j p z => absurd z (Nat.not_lt_zero _)), Nat.le_refl _⟩ ?_
      intro s' L es ep t mv T g hk
      have e : s' = { s with heap := s'.heap, toks := s'.toks } := by
        have e1 : s'.gens = s.gens := mv.gens
        have e2 : s'.drawn = s.drawn := mv.drawn
        have e3 : s'.os = s.os := mv.os
        cases s'
        simp only at e1 e2 e3
        subst e1 e2 e3
        rfl
      rw [num] at g
      exact wpAny_pure (wpAny_pure ⟨rfl, s'.heap, s'.toks, L, es, ep, t, e, T, g, hk⟩)
    · match r2, hr2 with
      | .error _, hr2 => exact hr2
      | .ok .next, hr2 => exact hr2.elim
      | .ok .brk, hr2 => exact hr2.elim
      | .ok .cont, hr2 => exact hr2.elim
      | .ok (.ret x), ⟨ex, h', tk, L, es, ep, t, es2, T, g, hk⟩ =>
        subst ex es2
        repeat (any_goals (first | assumption | wp_step))
        exact q h' tk L es ep t T g hk
theorem txSet_ok {H : Hp} {h : Heap} {a : Addr} {L : Lots} {es : Array (Int × Value)} {ep : Nat} {t : SetTable} (T : TxSet P w h a L es ep t) : ObjOk P w H h a (LotSetO P w a L) := by
  have z : LotSet0 P w h a L := ⟨⟨es, ep, t, T.obj, T.rws, T.tbl, T.ldd, T.rm, T.fw⟩⟩
  obtain ⟨o, ho, _⟩ := T.obj
  refine ⟨z, ⟨o, ho⟩, fun h1 h2 x k => ?_⟩
  obtain ⟨es', ep', t', ⟨o', ho', r'⟩, q'⟩ := LotSet0.ex x
  exact ⟨es', ep', t', ⟨o', k o' ho', r'⟩, q'⟩
theorem set_of {K : PySem.W.Frag} {X : Cx} (hc : X.calm = true) (hP : X.prog = P) (hw : X.w = w) (hK : X.K = K) (hu : X.A.units + 64 < cLine) : CallR X (.type "set") (rSetS P w K) := by
  subst hP hw hK
  intro pins s σ H xs us Q I r h
  obtain ⟨l, ks, rfl, hl, hk, few, q⟩ := h
  rw [Vals.ref1 r]
  obtain ⟨its, rv, pl, hz⟩ := I.list hl
  have hn : H s.heap.objs.size = none := I.hok.fresh (Nat.le_refl _)
  refine make_set (P := X.prog) (w := X.w) (I.ok.hd hc) pl.isList (by rw [← refs_eq rv]) (fun p hp => isLot_of (lotH_of I (hk p hp))) few (by omega) fun h' tk L es ep t T g k => ?_
  refine ⟨.ref s.heap.objs.size, upd H s.heap.objs.size (LotSetO X.prog X.w s.heap.objs.size L), I.laid (t' := tk) k (Nat.le_refl _) (txSet_ok T), rfl, q _ L hn g.sub (fun p hp => ?_) g.len⟩
  obtain ⟨j, hj⟩ := List.mem_iff_getElem?.mp hp
  exact g.all j p (List.getElem?_eq_some_iff.mp hj).1 hj
theorem set_rules {K : PySem.W.Frag} : SetRules P w K := ⟨fun X hc hP hw hK hu => set_of hc hP hw hK hu, fun X hc hP hw hu => sorted_set hc hP hw hu⟩
end
end Nh

/-! the law's call, behind the top: no repr is under way there -/
namespace Nh
open PySem PySem.Spec PyProof.Rows L2 Evl
/-- how the call ends -/
abbrev Ended (s₁ : Shared) : Result → Shared → Prop := fun r s' => r = .ok (.ret (.bool true)) ∧ OldK s₁.heap s'.heap ∧ s'.os = s₁.os ∧ AllBare s'.gens
theorem law_from {P : Program} {w : World} {K : PySem.W.Frag} {mg mb : Str → Option Value} {k : Nat} {fa a : Addr} {fd : FuncData} {x : Str} {sp : Sp} {s₁ : Shared} {vs : List Value} {H : Hp}
    (KX : K.In s₁.heap) (hns : s₁.heap.Ns mainGlobals mg) (hb : s₁.heap.Ns builtinsNs mb) (hbb : ∀ x : Str, x ≠ "__name__" → mb x = bootBuiltins x) (hlim : s₁.heap.NoLimit) (hg : s₁.gens = #[])
    (ha : s₁.heap.get? a = some { cls := .type "list", data := .seq vs.toArray }) (hr : Room k callerA) (F : ∀ base : Heap, K.In base → base.Ns mainGlobals mg → FnG P w K mg base k fa fd [x] sp) (bnd : ∀ (s : Shared) (u : Value), BindsTo s fd ⟨[u], []⟩ [(x, u)])
    (only : Only H) (hok : HOk P w H s₁.heap) (one : ∀ b, H b ≠ none → b = a) (out : H a ≠ none → K.lookup a = none) (hsp : sp [.ref a] H (fun v _ => v = .bl true) fun _ _ _ => False) :
    codeAny (model P w) callerA (.call (.ref fa) ⟨[.ref a], []⟩) (Ended s₁) s₁ := by
  have free : ∀ {b : Addr} {o : Obj}, s₁.heap.get? b = some o → (b = a → H a = none) → (hidT s₁.heap H).get? b = some o := fun {b o} e h => hidT_get e (by
    cases q : H b with
    | none => rfl
    | some u =>
      have ba := one b (by rw [q]; exact fun z => nomatch z)
      rw [ba, h ba] at q
      cases q)
  have nsp : ∀ {b : Addr} {m : Str → Option Value}, s₁.heap.Ns b m → (hidT s₁.heap H).Ns b m := fun {b m} ⟨o, es, ep, e, d, r⟩ => ⟨o, es, ep, free e (fun ba => by
    rw [ba, ha] at e
    cases e
    exact nomatch (show Data.seq vs.toArray _ = Data.dict es ep from d)), d, r⟩
  have kb : K.In (hidT s₁.heap H) := fun b o e => free (KX b o e) fun ba => by
    cases q : H a with
    | none => rfl
    | some u =>
      have := out (by rw [q]; exact fun z => nomatch z)
      rw [ba, this] at e
      cases e
  obtain ⟨mc, l1, l2⟩ := hlim
  have md : Mod K mg (hidT s₁.heap H) := ⟨kb, nsp hns, ⟨mb, nsp hb, hbb⟩, mc, nsp l1, l2⟩
  have e0 : Env0 P w K mg (hidT s₁.heap H) callerA [] s₁ H := ⟨rfl, md, fun b o e => of_hidT e, Nat.le_of_eq (hidT_size _ _), trivial, (fun b hb => nomatch hb), hok, .of_eq hg⟩
  refine codeAny_mono ((F _ kb (nsp hns)).go callerA [] s₁ H ⟨[.ref a], []⟩ [.ref a] [.ref a] _ _ hr rfl e0 (bnd s₁ (.ref a)) (.cons rfl .nil) hsp) fun r s' h => ?_
  match r, h with
  | .error e, h => exact False.elim h
  | .ok .next, h => exact False.elim h
  | .ok .brk, h => exact False.elim h
  | .ok .cont, h => exact False.elim h
  | .ok (.ret u), ⟨v, H', os, bare, un, hok', ru, hv⟩ =>
    have hv : v = .bl true := hv
    subst hv
    cases (show u = Value.bool true from ru)
    refine ⟨rfl, OldK.of_keep fun b o e => ?_, os, bare⟩
    rcases only b with q | ⟨ob, xs, q⟩
    · exact un.keep b o e q (fun z => nomatch z) (fun z => nomatch z)
    · have o1 := (hok b _ q).1
      have o2 := (hok' b _ (un.frzs b ob _ q)).1
      rw [o1] at e
      cases e
      exact o2
theorem law_run {P : Program} {w : World} {K : PySem.W.Frag} {mg mb : Str → Option Value} {k : Nat} {fa a : Addr} {fd : FuncData} {x : Str} {sp : Sp} {s₁ : Shared} {vs : List Value} {ns : List Int}
    (KX : K.In s₁.heap) (hns : s₁.heap.Ns mainGlobals mg) (hb : s₁.heap.Ns builtinsNs mb) (hbb : ∀ x : Str, x ≠ "__name__" → mb x = bootBuiltins x) (hlim : s₁.heap.NoLimit) (hg : s₁.gens = #[])
    (ha : s₁.heap.get? a = some { cls := .type "list", data := .seq vs.toArray }) (hi : IntsAre vs ns) (hl : ns.length ≤ sizeLine) (hr : Room k callerA) (F : ∀ base : Heap, K.In base → base.Ns mainGlobals mg → FnG P w K mg base k fa fd [x] sp) (bnd : ∀ (s : Shared) (u : Value), BindsTo s fd ⟨[u], []⟩ [(x, u)])
    (hsp : ∀ H : Hp, SqL K H a (ns.map V.int) → sp [.ref a] H (fun v _ => v = .bl true) fun _ _ _ => False) : codeAny (model P w) callerA (.call (.ref fa) ⟨[.ref a], []⟩) (Ended s₁) s₁ := by
  have rv := vals_ints hi
  have lv := hi.length
  cases hk : K.lookup a with
  | some o =>
    have e : some o = some { cls := .type "list", data := .seq vs.toArray } := (KX a o hk).symm.trans ha
    cases e
    exact law_from (H := fun _ => none) KX hns hb hbb hlim hg ha hr F bnd (fun _ => .inl rfl) (fun b u z => nomatch (show (none : Option HO) = some u from z)) (fun b z => absurd rfl z) (fun z => absurd rfl z)
      (hsp _ (.inr ⟨_, vs.toArray, _, hk, rfl, rfl, rfl, by rw [List.size_toArray, lv]; exact hl, by simpa using rv⟩))
  | none =>
    have here : (fun b => if b = a then some (HO.frz { cls := .type "list", data := .seq vs.toArray } (.lst (ns.map V.int))) else none) a = some (HO.frz { cls := .type "list", data := .seq vs.toArray } (.lst (ns.map V.int))) := if_pos rfl
    refine law_from (H := fun b => if b = a then some (.frz { cls := .type "list", data := .seq vs.toArray } (.lst (ns.map V.int))) else none) KX hns hb hbb hlim hg ha hr F bnd (fun b => ?_) (fun b u z => ?_) (fun b z => ?_) (fun _ => hk) (hsp _ (.inl (.inr ⟨_, here⟩)))
    · by_cases ba : b = a
      · exact .inr ⟨_, _, if_pos ba⟩
      · exact .inl (if_neg ba)
    · by_cases ba : b = a
      · have z : (if b = a then some (HO.frz { cls := .type "list", data := .seq vs.toArray } (.lst (ns.map V.int))) else none) = some u := z
        rw [if_pos ba] at z
        cases z
        rw [ba]
        exact ⟨ha, by rw [List.length_map]; exact hl, vs, _, rv, ha⟩
      · have z : (if b = a then some (HO.frz { cls := .type "list", data := .seq vs.toArray } (.lst (ns.map V.int))) else none) = some u := z
        rw [if_neg ba] at z
        cases z
    · by_cases ba : b = a
      · exact ba
      · exact absurd (if_neg ba) z
/-- the goal that the head leaves -/
theorem walk_law {l : PySem.W.OpenLaw} {n k : Nat} {q : Program} {loose : List Str} {XP : (Str → Option Value) → Heap → Prop} {YP : World → Heap → Prop} {d : DefRec} {K : Params → PySem.W.Frag} {sp : World → Sp} {x : Str}
    (hn : l.most = some n) (hn2 : n ≤ sizeLine) (hdf : d.params.defaults = []) (hr : Room k callerA) (hY : ∀ (w : World) (h : Heap), YP w h → (K w.params).In h)
    (F : ∀ (w : World) (mg : Str → Option Value) (fa : Addr) (h : Heap), (K w.params).In h → h.Ns mainGlobals mg → mg d.name = some (.ref fa) →
      ∃ fd : FuncData, (∀ (s : Shared) (u : Value), BindsTo s fd ⟨[u], []⟩ [(x, u)]) ∧ ∀ base : Heap, (K w.params).In base → base.Ns mainGlobals mg → FnG l.prog w (K w.params) mg base k fa fd [x] (sp w))
    (hsp : ∀ (w : World) (H : Hp) (a : Addr) (ns : List Int), ns.length ≤ n → SqL (K w.params) H a (ns.map V.int) → sp w [.ref a] H (fun v _ => v = .bl true) fun _ _ _ => False) :
    PySem.W.WalkO q loose XP YP l.row.toRowW d [] (fun f vs => PySem.call f vs) := by
  refine Att.attach_call hn hdf fun w s0 s1 mg mb fa o pm cd doc a vs ns G Y ho hd hcd hmg hobj hints hlen hg => ?_
  obtain ⟨fd, bnd, hF⟩ := F w mg fa _ (hY w _ Y) G.T.g hmg
  exact law_run (hY w _ Y) G.T.g G.T.b G.T.builtins G.T.nolimit hg hobj hints (Nat.le_trans hlen hn2) hr hF bnd fun H hS => hsp w H a ns hlen hS
end Nh

/-! all defs of the law, each with what it promises -/
namespace Nh
open PySem PySem.Spec PyProof.Rows L2 Evl
structure Fd (K : PySem.W.Frag) (mg : Str → Option Value) (x : Str) (st : Stmt) (ps : List Str) : Prop where
  ex : ∃ (f : Addr) (fd : FuncData), Df K mg x st ps f fd
theorem fd_mk {K : PySem.W.Frag} {h : Heap} {mg : Str → Option Value} {x : Str} {st : Stmt} {ps : List Str} {f : Addr} {od an : Option Addr} {sl : Array (Option Value)} {oc kV dc pm cd ct : Value} (X : K.In h) (G : h.Ns mainGlobals mg)
    (a : PySem.W.nsIn K mainGlobals x = some (some (.ref f))) (l : K.lookup f = some ⟨oc, od, .func (PySem.W.fnOf x x (defArgs st) (defBody st) (defScope st) .none kV dc pm an cd ct), sl⟩) (c : PySem.W.codeIn K cd x = true) (k : PySem.W.keepIn K (.ref f) = true)
    (b : ∀ (kV doc pm : Value) (an : Option Addr) (cdv ct : Value) (us : List Value), us.length = ps.length → bindArgs (PySem.W.fnOf x x (defArgs st) (defBody st) (defScope st) .none kV doc pm an cdv ct) ⟨us, []⟩ = pure (ps.zip us)) : Fd K mg x st ps :=
  ⟨⟨f, _, fun_mk l c k, PySem.W.mg_of X G a, (fun_mk l c k).binds b, k⟩⟩
theorem kb_mk {K : PySem.W.Frag} {mg : Str → Option Value} {x : Str} {st : Stmt} {f : Addr} {fd : FuncData} (D : Df K mg x st ["town", "fears"] f fd)
    (h : ∀ (kV doc pm : Value) (an : Option Addr) (cdv ct a b : Value), bindArgs (PySem.W.fnOf x x (defArgs st) (defBody st) (defScope st) .none kV doc pm an cdv ct) ⟨[], [(("fears" : Str), a), (("town" : Str), b)]⟩ = pure [(("town" : Str), b), (("fears" : Str), a)]) : KBinds K fd ["town", "fears"] ["fears", "town"] swap2 swap2 := by
  obtain ⟨oc, od, kV, doc, pm, an, cdv, ct, osl, rfl, _⟩ := D.F.ex
  refine ⟨fun s us ws _ hl => ?_, fun r r' => vals_swap r r'⟩
  obtain ⟨rfl, a, b, rfl⟩ := swap2_len hl
  exact .of_eq (h kV doc pm an cdv ct a b)
theorem all_law {P : Program} {w : World} {K : PySem.W.Frag} {mg : Str → Option Value} (B : Bn mg) (M : Gm mg) (d__law_feed : Fd K mg "_law_feed" st__law_feed ["_law_script"]) (d__law_draw : Fd K mg "_law_draw" st__law_draw ["_law_feed_here", "_law_bound"]) (d__law_any : Fd K mg "_law_any" st__law_any ["_law_feed_here", "_law_some"]) (d__law_wires : Fd K mg "_law_wires" st__law_wires ["_law_feed_here", "_law_towers", "_law_often"]) (d__law_ground : Fd K mg "_law_ground" st__law_ground ["_law_feed_here", "_law_most"]) (d__law_dread : Fd K mg "_law_dread" st__law_dread ["_law_feed_here", "_law_towers"]) (d_want : ∃ (f : Addr) (fd : FuncData), FunD K "want" "want" (defArgs st_want) (defBody st_want) (defScope st_want) [.int (-1)] [] f fd ∧ mg "want" = some (.ref f)) (d_is_tuple_of : Fd K mg "is_tuple_of" st_is_tuple_of ["thing", "many"]) (d_is_name : Fd K mg "is_name" st_is_name ["thing"]) (d_are_ascending : Fd K mg "are_ascending" st_are_ascending ["things"]) (d_are_names : Fd K mg "are_names" st_are_names ["thing"]) (d_is_towers : Fd K mg "is_towers" st_is_towers ["thing"]) (d_is_integer : Fd K mg "is_integer" st_is_integer ["thing"]) (d_are_integers : Fd K mg "are_integers" st_are_integers ["thing", "many"]) (d_is_wire_for : Fd K mg "is_wire_for" st_is_wire_for ["towers", "thing"]) (d_wire_fault : Fd K mg "wire_fault" st_wire_fault ["towers", "wires", "k"]) (d_town_fault : Fd K mg "town_fault" st_town_fault ["thing"]) (d_want_town : Fd K mg "want_town" st_want_town ["town"]) (d_is_tower_of : Fd K mg "is_tower_of" st_is_tower_of ["town", "thing"]) (d_is_lot : Fd K mg "is_lot" st_is_lot ["town", "thing"]) (d_fears_fault : Fd K mg "fears_fault" st_fears_fault ["town", "thing"]) (d_want_fears : Fd K mg "want_fears" st_want_fears ["town", "thing"]) (d_want_fearful : Fd K mg "want_fearful" st_want_fearful ["town", "fears"]) (d_lot_less : Fd K mg "lot_less" sLotLess ["lot", "towers"]) (d_twos_of : Fd K mg "twos_of" st_twos_of ["things"]) (d_choices_of : Fd K mg "choices_of" st_choices_of ["town", "fears"]) (d_least_sum : Fd K mg "least_sum" st_least_sum ["town", "towers", "first", "last"]) (d_rest_of : Fd K mg "rest_of" st_rest_of ["town", "one", "other"]) (d_play_by : Fd K mg "play_by" st_play_by ["town", "fears"]) (d_play_of : Fd K mg "play_of" st_play_of ["town", "fears"]) (d__law_same : Fd K mg "_law_same" st__law_same ["_law_actual", "_law_due"]) (d__law_lots : Fd K mg "_law_lots" st__law_lots ["_law_dread_here"]) (d__law_rests : Fd K mg "_law_rests" st__law_rests ["_law_ground_here", "_law_lots_here"]) (d__law_widest : Fd K mg "_law_widest" st__law_widest ["_law_ground_here", "_law_some"]) (d__law_play : Fd K mg "_law_play" st__law_play ["_law_ground_here", "_law_lots_here"]) (d__law_parted : Fd K mg "_law_parted" st__law_parted ["_law_ground_here", "_law_lots_here"]) (d_parted : Fd K mg "parted" st_parted ["town", "lots"]) (d_three_by : Fd K mg "three_by" st_three_by ["town", "fears"]) (d_bound_by : Fd K mg "bound_by" st_bound_by ["town", "fears"]) (d_bound_of : Fd K mg "bound_of" st_bound_of ["town", "fears"]) (d_met_from : Fd K mg "met_from" st_met_from ["town", "towers", "one"]) (d_two_by : Fd K mg "two_by" st_two_by ["town", "fears"]) (d_is_bounded_by : Fd K mg "is_bounded_by" st_is_bounded_by ["town", "fears"]) (d_is_bounded : Fd K mg "is_bounded" st_is_bounded ["town", "fears"]) (d__law_are_told : Fd K mg "_law_are_told" st__law_are_told ["_law_ground_here", "_law_dread_here"]) (d_law : Fd K mg "law" st_law ["_law_script"]) : ∃ (f : Addr) (fd : FuncData), Df K mg "law" st_law ["_law_script"] f fd ∧ ∀ base : Heap, FnG P w K mg base 10 f fd ["_law_script"] (sp_law K) := by
  obtain ⟨f__law_feed, fd__law_feed, D__law_feed⟩ := d__law_feed.ex
  obtain ⟨f__law_draw, fd__law_draw, D__law_draw⟩ := d__law_draw.ex
  obtain ⟨f__law_any, fd__law_any, D__law_any⟩ := d__law_any.ex
  obtain ⟨f__law_wires, fd__law_wires, D__law_wires⟩ := d__law_wires.ex
  obtain ⟨f__law_ground, fd__law_ground, D__law_ground⟩ := d__law_ground.ex
  obtain ⟨f__law_dread, fd__law_dread, D__law_dread⟩ := d__law_dread.ex
  obtain ⟨f_want, fd_want, D_want, g_want⟩ := d_want
  obtain ⟨f_is_tuple_of, fd_is_tuple_of, D_is_tuple_of⟩ := d_is_tuple_of.ex
  obtain ⟨f_is_name, fd_is_name, D_is_name⟩ := d_is_name.ex
  obtain ⟨f_are_ascending, fd_are_ascending, D_are_ascending⟩ := d_are_ascending.ex
  obtain ⟨f_are_names, fd_are_names, D_are_names⟩ := d_are_names.ex
  obtain ⟨f_is_towers, fd_is_towers, D_is_towers⟩ := d_is_towers.ex
  obtain ⟨f_is_integer, fd_is_integer, D_is_integer⟩ := d_is_integer.ex
  obtain ⟨f_are_integers, fd_are_integers, D_are_integers⟩ := d_are_integers.ex
  obtain ⟨f_is_wire_for, fd_is_wire_for, D_is_wire_for⟩ := d_is_wire_for.ex
  obtain ⟨f_wire_fault, fd_wire_fault, D_wire_fault⟩ := d_wire_fault.ex
  obtain ⟨f_town_fault, fd_town_fault, D_town_fault⟩ := d_town_fault.ex
  obtain ⟨f_want_town, fd_want_town, D_want_town⟩ := d_want_town.ex
  obtain ⟨f_is_tower_of, fd_is_tower_of, D_is_tower_of⟩ := d_is_tower_of.ex
  obtain ⟨f_is_lot, fd_is_lot, D_is_lot⟩ := d_is_lot.ex
  obtain ⟨f_fears_fault, fd_fears_fault, D_fears_fault⟩ := d_fears_fault.ex
  obtain ⟨f_want_fears, fd_want_fears, D_want_fears⟩ := d_want_fears.ex
  obtain ⟨f_want_fearful, fd_want_fearful, D_want_fearful⟩ := d_want_fearful.ex
  obtain ⟨f_lot_less, fd_lot_less, D_lot_less⟩ := d_lot_less.ex
  obtain ⟨f_twos_of, fd_twos_of, D_twos_of⟩ := d_twos_of.ex
  obtain ⟨f_choices_of, fd_choices_of, D_choices_of⟩ := d_choices_of.ex
  obtain ⟨f_least_sum, fd_least_sum, D_least_sum⟩ := d_least_sum.ex
  obtain ⟨f_rest_of, fd_rest_of, D_rest_of⟩ := d_rest_of.ex
  obtain ⟨f_play_by, fd_play_by, D_play_by⟩ := d_play_by.ex
  obtain ⟨f_play_of, fd_play_of, D_play_of⟩ := d_play_of.ex
  obtain ⟨f__law_same, fd__law_same, D__law_same⟩ := d__law_same.ex
  obtain ⟨f__law_lots, fd__law_lots, D__law_lots⟩ := d__law_lots.ex
  obtain ⟨f__law_rests, fd__law_rests, D__law_rests⟩ := d__law_rests.ex
  obtain ⟨f__law_widest, fd__law_widest, D__law_widest⟩ := d__law_widest.ex
  obtain ⟨f__law_play, fd__law_play, D__law_play⟩ := d__law_play.ex
  obtain ⟨f__law_parted, fd__law_parted, D__law_parted⟩ := d__law_parted.ex
  obtain ⟨f_parted, fd_parted, D_parted⟩ := d_parted.ex
  obtain ⟨f_three_by, fd_three_by, D_three_by⟩ := d_three_by.ex
  obtain ⟨f_bound_by, fd_bound_by, D_bound_by⟩ := d_bound_by.ex
  obtain ⟨f_bound_of, fd_bound_of, D_bound_of⟩ := d_bound_of.ex
  obtain ⟨f_met_from, fd_met_from, D_met_from⟩ := d_met_from.ex
  obtain ⟨f_two_by, fd_two_by, D_two_by⟩ := d_two_by.ex
  obtain ⟨f_is_bounded_by, fd_is_bounded_by, D_is_bounded_by⟩ := d_is_bounded_by.ex
  obtain ⟨f_is_bounded, fd_is_bounded, D_is_bounded⟩ := d_is_bounded.ex
  obtain ⟨f__law_are_told, fd__law_are_told, D__law_are_told⟩ := d__law_are_told.ex
  obtain ⟨f_law, fd_law, D_law⟩ := d_law.ex
  refine ⟨f_law, fd_law, D_law, fun base => ?_⟩
  have c__law_feed := ok__law_feed (P := P) (w := w) (base := base) D__law_feed B
  have c__law_draw := ok__law_draw (P := P) (w := w) (base := base) D__law_draw B
  have c__law_any := ok__law_any (P := P) (w := w) (base := base) D__law_any B c__law_draw
  have c__law_wires := ok__law_wires (P := P) (w := w) (base := base) D__law_wires B c__law_draw c__law_any
  have c__law_ground := ok__law_ground (P := P) (w := w) (base := base) D__law_ground B sort_W c__law_draw c__law_any c__law_wires
  have c__law_dread := ok__law_dread (P := P) (w := w) (base := base) D__law_dread B sort_keys c__law_draw c__law_any
  have c_want := ok_want (P := P) (w := w) (base := base) D_want g_want
  have c_is_tuple_of := ok_is_tuple_of (P := P) (w := w) (base := base) D_is_tuple_of B
  have c_is_name := ok_is_name (P := P) (w := w) (base := base) D_is_name B M
  have c_are_ascending := ok_are_ascending (P := P) (w := w) (base := base) D_are_ascending B
  have c_are_names := ok_are_names (P := P) (w := w) (base := base) D_are_names B c_is_name c_are_ascending
  have c_is_towers := ok_is_towers (P := P) (w := w) (base := base) D_is_towers B c_are_names
  have c_is_integer := ok_is_integer (P := P) (w := w) (base := base) D_is_integer B
  have c_are_integers := ok_are_integers (P := P) (w := w) (base := base) D_are_integers B c_is_integer c_is_tuple_of
  have c_is_wire_for := ok_is_wire_for (P := P) (w := w) (base := base) D_is_wire_for B c_is_tuple_of c_are_integers
  have c_wire_fault := ok_wire_fault (P := P) (w := w) (base := base) D_wire_fault B c_is_wire_for
  have c_town_fault := ok_town_fault (P := P) (w := w) (base := base) D_town_fault B c_is_tuple_of c_is_towers c_wire_fault
  have c_want_town := ok_want_town (P := P) (w := w) (base := base) D_want_town B c_want c_town_fault
  have c_is_tower_of := ok_is_tower_of (P := P) (w := w) (base := base) D_is_tower_of B
  have c_is_lot := ok_is_lot (P := P) (w := w) (base := base) D_is_lot B c_are_names c_is_tower_of
  have c_fears_fault := ok_fears_fault (P := P) (w := w) (base := base) D_fears_fault B c_is_lot
  have c_want_fears := ok_want_fears (P := P) (w := w) (base := base) D_want_fears B c_want c_fears_fault
  have c_want_fearful := ok_want_fearful (P := P) (w := w) (base := base) D_want_fearful B c_want_town c_want_fears
  have c_lot_less : C8.Cal P w K mg base 1 "lot_less" sp_lot_less [] := D_lot_less.cal (ok_lotLess (k := 0) D_lot_less B)
  have c_twos_of := ok_twos_of (P := P) (w := w) (base := base) D_twos_of B
  have c_choices_of := ok_choices_of (P := P) (w := w) (base := base) D_choices_of B set_rules c_lot_less c_twos_of
  have c_least_sum := ok_least_sum (P := P) (w := w) (base := base) D_least_sum B
  have c_rest_of := ok_rest_of (P := P) (w := w) (base := base) D_rest_of B c_lot_less
  have c_play_by := ok_play_by (P := P) (w := w) (base := base) D_play_by B c_choices_of c_least_sum c_rest_of
  have c_play_of := ok_play_of (P := P) (w := w) (base := base) D_play_of B c_want_fearful c_play_by
  have k_play_of : CalK P w K mg base 8 "play_of" sp_play_of ["fears", "town"] := ⟨⟨f_play_of, fd_play_of, ["town", "fears"], fn_play_of D_play_of B c_want_fearful c_play_by, D_play_of.g, D_play_of.kp, kb_mk D_play_of (fun _ _ _ _ _ _ _ _ => rfl)⟩⟩
  have c__law_same := ok__law_same (P := P) (w := w) (base := base) D__law_same B
  have c__law_lots := ok__law_lots (P := P) (w := w) (base := base) D__law_lots B sort_keys
  have c__law_rests := ok__law_rests (P := P) (w := w) (base := base) D__law_rests B sort_keys
  have c__law_widest := ok__law_widest (P := P) (w := w) (base := base) D__law_widest B sort_keys
  have c__law_play := ok__law_play (P := P) (w := w) (base := base) D__law_play B c__law_rests c__law_widest
  have c__law_parted := ok__law_parted (P := P) (w := w) (base := base) D__law_parted B dict_T
  have c_parted := ok_parted (P := P) (w := w) (base := base) D_parted B sort_LL
  have c_three_by := ok_three_by (P := P) (w := w) (base := base) D_three_by B c_twos_of c_parted
  have c_bound_by := ok_bound_by (P := P) (w := w) (base := base) D_bound_by B c_play_by c_three_by
  have c_bound_of := ok_bound_of (P := P) (w := w) (base := base) D_bound_of B c_want_fearful c_bound_by
  have k_bound_of : CalK P w K mg base 8 "bound_of" sp_bound_of ["fears", "town"] := ⟨⟨f_bound_of, fd_bound_of, ["town", "fears"], fn_bound_of D_bound_of B c_want_fearful c_bound_by, D_bound_of.g, D_bound_of.kp, kb_mk D_bound_of (fun _ _ _ _ _ _ _ _ => rfl)⟩⟩
  have c_met_from := ok_met_from (P := P) (w := w) (base := base) D_met_from B
  have c_two_by := ok_two_by (P := P) (w := w) (base := base) D_two_by B c_choices_of c_met_from c_rest_of
  have c_is_bounded_by := ok_is_bounded_by (P := P) (w := w) (base := base) D_is_bounded_by B c_three_by c_two_by
  have c_is_bounded := ok_is_bounded (P := P) (w := w) (base := base) D_is_bounded B c_want_fearful c_is_bounded_by
  have c__law_are_told := ok__law_are_told (P := P) (w := w) (base := base) D__law_are_told B c__law_lots c__law_play c__law_parted c__law_same c_play_of c_bound_of c_is_bounded k_play_of k_bound_of
  exact ok_law (P := P) (w := w) (base := base) D_law B c__law_feed c__law_ground c__law_dread c__law_any c_play_of c__law_same c__law_are_told
end Nh

namespace Nh
open PySem PySem.Spec PyProof.Rows L2 Evl
abbrev Wn (K : PySem.W.Frag) (mg : Str → Option Value) : Prop := ∃ (f : Addr) (fd : FuncData), FunD K "want" "want" (defArgs st_want) (defBody st_want) (defScope st_want) [.int (-1)] [] f fd ∧ mg "want" = some (.ref f)
theorem want_mk {K : PySem.W.Frag} {h : Heap} {mg : Str → Option Value} {f T : Addr} {od an odT : Option Addr} {sl slT : Array (Option Value)} {oc kV dc pm cd ct ocT : Value} {t : Tok} {n : Nat} (X : K.In h) (G : h.Ns mainGlobals mg)
    (a : PySem.W.nsIn K mainGlobals "want" = some (some (.ref f))) (l : K.lookup f = some ⟨oc, od, .func (PySem.W.fnOf "want" "want" (defArgs st_want) (defBody st_want) (defScope st_want) (.ref T) kV dc pm an cd ct), sl⟩) (c : PySem.W.codeIn K cd "want" = true) (k : PySem.W.keepIn K (.ref f) = true)
    (lT : K.lookup T = some ⟨ocT, odT, .seq #[.int (-1) t] n, slT⟩) : ∃ (f : Addr) (fd : FuncData), FunD K "want" "want" (defArgs st_want) (defBody st_want) (defScope st_want) [.int (-1)] [] f fd ∧ mg "want" = some (.ref f) :=
  ⟨f, _, ⟨⟨oc, od, .ref T, kV, dc, pm, an, cd, ct, sl, rfl, l, c, .inr ⟨fun z => (nomatch z), T, _, [.int (-1) t], n, rfl, lT, rfl, .cons ⟨t, rfl⟩ .nil⟩, .inl rfl⟩, k⟩, PySem.W.mg_of X G a⟩
theorem gm_mk {K : PySem.W.Frag} {h : Heap} {mg : Str → Option Value} {u v : Value} (X : K.In h) (G : h.Ns mainGlobals mg) (a1 : PySem.W.nsIn K mainGlobals "LETTERS" = some (some u)) (a2 : PySem.W.nsIn K mainGlobals "MOST_LETTERS" = some (some v)) (e1 : ∃ t, u = .str letters t) (e2 : ∃ t, v = .int 8 t) : Gm mg := by
  obtain ⟨t, rfl⟩ := e1
  obtain ⟨t', rfl⟩ := e2
  exact ⟨⟨t, PySem.W.mg_of X G a1⟩, ⟨t', PySem.W.mg_of X G a2⟩⟩
end Nh
open PySem PySem.W PyProof.Rows
set_option maxHeartbeats 0 in
theorem PySem.Challenge.cw_nearhours_k49_whole_plays_holds : PySem.Challenge.rw_nearhours_k49_whole_plays.Holds := by
  w_on; o_law; k_head; (case hw => w_witness2)
  k_fill
  refine Nh.walk_law (l := PySem.Challenge.rw_nearhours_k49_whole_plays) (n := 63) (k := 10) (x := "_law_script") (sp := fun w => Nh.sp_law _) rfl (by decide) rfl ⟨rfl, by decide, by decide⟩ (fun w h Y => PySem.W.kIn_of Y) ?F (fun _ _ a ns hl hS => ⟨a, ns, rfl, hS, Nat.le_trans hl (by decide), fun _ => rfl⟩)
  case F =>
    intro w mg fa h KX G hmg
    have B : Nh.Bn mg := by
      refine' ⟨PySem.W.mg_none_of KX G ?z_isi, PySem.W.mg_none_of KX G ?z_len, PySem.W.mg_none_of KX G ?z_all, PySem.W.mg_none_of KX G ?z_zip, PySem.W.mg_none_of KX G ?z_range, PySem.W.mg_none_of KX G ?z_enumerate, PySem.W.mg_none_of KX G ?z_sorted, PySem.W.mg_none_of KX G ?z_min, PySem.W.mg_none_of KX G ?z_max, PySem.W.mg_none_of KX G ?z_sum, PySem.W.mg_none_of KX G ?z_repr, PySem.W.mg_none_of KX G ?z_tuple, PySem.W.mg_none_of KX G ?z_str, PySem.W.mg_none_of KX G ?z_int, PySem.W.mg_none_of KX G ?z_bool, PySem.W.mg_none_of KX G ?z_dict, PySem.W.mg_none_of KX G ?z_set, PySem.W.mg_none_of KX G ?z_list⟩
      all_goals k_is
    have M : Nh.Gm mg := by
      refine' Nh.gm_mk KX G ?a1 ?a2 ?e1 ?e2
      (case a1 => k_is); (case a2 => k_is); (case e1 => exact ⟨_, rfl⟩); (case e2 => exact ⟨_, rfl⟩)
    have d__law_feed : Nh.Fd (L2.KOf KX) mg "_law_feed" Nh.st__law_feed ["_law_script"] := by
      delta L2.KOf
      refine' Nh.fd_mk KX G ?a ?l ?c ?k (fun _ _ _ _ _ _ us hl => match us, hl with | [_], _ => rfl)
      (case a => k_is); (case l => k_is); (case c => k_is); (case k => k_is)
    have d__law_draw : Nh.Fd (L2.KOf KX) mg "_law_draw" Nh.st__law_draw ["_law_feed_here", "_law_bound"] := by
      delta L2.KOf
      refine' Nh.fd_mk KX G ?a ?l ?c ?k (fun _ _ _ _ _ _ us hl => match us, hl with | [_, _], _ => rfl)
      (case a => k_is); (case l => k_is); (case c => k_is); (case k => k_is)
    have d__law_any : Nh.Fd (L2.KOf KX) mg "_law_any" Nh.st__law_any ["_law_feed_here", "_law_some"] := by
      delta L2.KOf
      refine' Nh.fd_mk KX G ?a ?l ?c ?k (fun _ _ _ _ _ _ us hl => match us, hl with | [_, _], _ => rfl)
      (case a => k_is); (case l => k_is); (case c => k_is); (case k => k_is)
    have d__law_wires : Nh.Fd (L2.KOf KX) mg "_law_wires" Nh.st__law_wires ["_law_feed_here", "_law_towers", "_law_often"] := by
      delta L2.KOf
      refine' Nh.fd_mk KX G ?a ?l ?c ?k (fun _ _ _ _ _ _ us hl => match us, hl with | [_, _, _], _ => rfl)
      (case a => k_is); (case l => k_is); (case c => k_is); (case k => k_is)
    have d__law_ground : Nh.Fd (L2.KOf KX) mg "_law_ground" Nh.st__law_ground ["_law_feed_here", "_law_most"] := by
      delta L2.KOf
      refine' Nh.fd_mk KX G ?a ?l ?c ?k (fun _ _ _ _ _ _ us hl => match us, hl with | [_, _], _ => rfl)
      (case a => k_is); (case l => k_is); (case c => k_is); (case k => k_is)
    have d__law_dread : Nh.Fd (L2.KOf KX) mg "_law_dread" Nh.st__law_dread ["_law_feed_here", "_law_towers"] := by
      delta L2.KOf
      refine' Nh.fd_mk KX G ?a ?l ?c ?k (fun _ _ _ _ _ _ us hl => match us, hl with | [_, _], _ => rfl)
      (case a => k_is); (case l => k_is); (case c => k_is); (case k => k_is)
    have d_want : Nh.Wn (L2.KOf KX) mg := by
      delta L2.KOf
      refine' Nh.want_mk (mg := mg) KX G ?a ?l ?c ?k ?lT
      (case a => k_is); (case l => k_is); (case c => k_is); (case k => k_is); (case lT => k_is)
    have d_is_tuple_of : Nh.Fd (L2.KOf KX) mg "is_tuple_of" Nh.st_is_tuple_of ["thing", "many"] := by
      delta L2.KOf
      refine' Nh.fd_mk KX G ?a ?l ?c ?k (fun _ _ _ _ _ _ us hl => match us, hl with | [_, _], _ => rfl)
      (case a => k_is); (case l => k_is); (case c => k_is); (case k => k_is)
    have d_is_name : Nh.Fd (L2.KOf KX) mg "is_name" Nh.st_is_name ["thing"] := by
      delta L2.KOf
      refine' Nh.fd_mk KX G ?a ?l ?c ?k (fun _ _ _ _ _ _ us hl => match us, hl with | [_], _ => rfl)
      (case a => k_is); (case l => k_is); (case c => k_is); (case k => k_is)
    have d_are_ascending : Nh.Fd (L2.KOf KX) mg "are_ascending" Nh.st_are_ascending ["things"] := by
      delta L2.KOf
      refine' Nh.fd_mk KX G ?a ?l ?c ?k (fun _ _ _ _ _ _ us hl => match us, hl with | [_], _ => rfl)
      (case a => k_is); (case l => k_is); (case c => k_is); (case k => k_is)
    have d_are_names : Nh.Fd (L2.KOf KX) mg "are_names" Nh.st_are_names ["thing"] := by
      delta L2.KOf
      refine' Nh.fd_mk KX G ?a ?l ?c ?k (fun _ _ _ _ _ _ us hl => match us, hl with | [_], _ => rfl)
      (case a => k_is); (case l => k_is); (case c => k_is); (case k => k_is)
    have d_is_towers : Nh.Fd (L2.KOf KX) mg "is_towers" Nh.st_is_towers ["thing"] := by
      delta L2.KOf
      refine' Nh.fd_mk KX G ?a ?l ?c ?k (fun _ _ _ _ _ _ us hl => match us, hl with | [_], _ => rfl)
      (case a => k_is); (case l => k_is); (case c => k_is); (case k => k_is)
    have d_is_integer : Nh.Fd (L2.KOf KX) mg "is_integer" Nh.st_is_integer ["thing"] := by
      delta L2.KOf
      refine' Nh.fd_mk KX G ?a ?l ?c ?k (fun _ _ _ _ _ _ us hl => match us, hl with | [_], _ => rfl)
      (case a => k_is); (case l => k_is); (case c => k_is); (case k => k_is)
    have d_are_integers : Nh.Fd (L2.KOf KX) mg "are_integers" Nh.st_are_integers ["thing", "many"] := by
      delta L2.KOf
      refine' Nh.fd_mk KX G ?a ?l ?c ?k (fun _ _ _ _ _ _ us hl => match us, hl with | [_, _], _ => rfl)
      (case a => k_is); (case l => k_is); (case c => k_is); (case k => k_is)
    have d_is_wire_for : Nh.Fd (L2.KOf KX) mg "is_wire_for" Nh.st_is_wire_for ["towers", "thing"] := by
      delta L2.KOf
      refine' Nh.fd_mk KX G ?a ?l ?c ?k (fun _ _ _ _ _ _ us hl => match us, hl with | [_, _], _ => rfl)
      (case a => k_is); (case l => k_is); (case c => k_is); (case k => k_is)
    have d_wire_fault : Nh.Fd (L2.KOf KX) mg "wire_fault" Nh.st_wire_fault ["towers", "wires", "k"] := by
      delta L2.KOf
      refine' Nh.fd_mk KX G ?a ?l ?c ?k (fun _ _ _ _ _ _ us hl => match us, hl with | [_, _, _], _ => rfl)
      (case a => k_is); (case l => k_is); (case c => k_is); (case k => k_is)
    have d_town_fault : Nh.Fd (L2.KOf KX) mg "town_fault" Nh.st_town_fault ["thing"] := by
      delta L2.KOf
      refine' Nh.fd_mk KX G ?a ?l ?c ?k (fun _ _ _ _ _ _ us hl => match us, hl with | [_], _ => rfl)
      (case a => k_is); (case l => k_is); (case c => k_is); (case k => k_is)
    have d_want_town : Nh.Fd (L2.KOf KX) mg "want_town" Nh.st_want_town ["town"] := by
      delta L2.KOf
      refine' Nh.fd_mk KX G ?a ?l ?c ?k (fun _ _ _ _ _ _ us hl => match us, hl with | [_], _ => rfl)
      (case a => k_is); (case l => k_is); (case c => k_is); (case k => k_is)
    have d_is_tower_of : Nh.Fd (L2.KOf KX) mg "is_tower_of" Nh.st_is_tower_of ["town", "thing"] := by
      delta L2.KOf
      refine' Nh.fd_mk KX G ?a ?l ?c ?k (fun _ _ _ _ _ _ us hl => match us, hl with | [_, _], _ => rfl)
      (case a => k_is); (case l => k_is); (case c => k_is); (case k => k_is)
    have d_is_lot : Nh.Fd (L2.KOf KX) mg "is_lot" Nh.st_is_lot ["town", "thing"] := by
      delta L2.KOf
      refine' Nh.fd_mk KX G ?a ?l ?c ?k (fun _ _ _ _ _ _ us hl => match us, hl with | [_, _], _ => rfl)
      (case a => k_is); (case l => k_is); (case c => k_is); (case k => k_is)
    have d_fears_fault : Nh.Fd (L2.KOf KX) mg "fears_fault" Nh.st_fears_fault ["town", "thing"] := by
      delta L2.KOf
      refine' Nh.fd_mk KX G ?a ?l ?c ?k (fun _ _ _ _ _ _ us hl => match us, hl with | [_, _], _ => rfl)
      (case a => k_is); (case l => k_is); (case c => k_is); (case k => k_is)
    have d_want_fears : Nh.Fd (L2.KOf KX) mg "want_fears" Nh.st_want_fears ["town", "thing"] := by
      delta L2.KOf
      refine' Nh.fd_mk KX G ?a ?l ?c ?k (fun _ _ _ _ _ _ us hl => match us, hl with | [_, _], _ => rfl)
      (case a => k_is); (case l => k_is); (case c => k_is); (case k => k_is)
    have d_want_fearful : Nh.Fd (L2.KOf KX) mg "want_fearful" Nh.st_want_fearful ["town", "fears"] := by
      delta L2.KOf
      refine' Nh.fd_mk KX G ?a ?l ?c ?k (fun _ _ _ _ _ _ us hl => match us, hl with | [_, _], _ => rfl)
      (case a => k_is); (case l => k_is); (case c => k_is); (case k => k_is)
    have d_lot_less : Nh.Fd (L2.KOf KX) mg "lot_less" Nh.sLotLess ["lot", "towers"] := by
      delta L2.KOf
      refine' Nh.fd_mk KX G ?a ?l ?c ?k (fun _ _ _ _ _ _ us hl => match us, hl with | [_, _], _ => rfl)
      (case a => k_is); (case l => k_is); (case c => k_is); (case k => k_is)
    have d_twos_of : Nh.Fd (L2.KOf KX) mg "twos_of" Nh.st_twos_of ["things"] := by
      delta L2.KOf
      refine' Nh.fd_mk KX G ?a ?l ?c ?k (fun _ _ _ _ _ _ us hl => match us, hl with | [_], _ => rfl)
      (case a => k_is); (case l => k_is); (case c => k_is); (case k => k_is)
    have d_choices_of : Nh.Fd (L2.KOf KX) mg "choices_of" Nh.st_choices_of ["town", "fears"] := by
      delta L2.KOf
      refine' Nh.fd_mk KX G ?a ?l ?c ?k (fun _ _ _ _ _ _ us hl => match us, hl with | [_, _], _ => rfl)
      (case a => k_is); (case l => k_is); (case c => k_is); (case k => k_is)
    have d_least_sum : Nh.Fd (L2.KOf KX) mg "least_sum" Nh.st_least_sum ["town", "towers", "first", "last"] := by
      delta L2.KOf
      refine' Nh.fd_mk KX G ?a ?l ?c ?k (fun _ _ _ _ _ _ us hl => match us, hl with | [_, _, _, _], _ => rfl)
      (case a => k_is); (case l => k_is); (case c => k_is); (case k => k_is)
    have d_rest_of : Nh.Fd (L2.KOf KX) mg "rest_of" Nh.st_rest_of ["town", "one", "other"] := by
      delta L2.KOf
      refine' Nh.fd_mk KX G ?a ?l ?c ?k (fun _ _ _ _ _ _ us hl => match us, hl with | [_, _, _], _ => rfl)
      (case a => k_is); (case l => k_is); (case c => k_is); (case k => k_is)
    have d_play_by : Nh.Fd (L2.KOf KX) mg "play_by" Nh.st_play_by ["town", "fears"] := by
      delta L2.KOf
      refine' Nh.fd_mk KX G ?a ?l ?c ?k (fun _ _ _ _ _ _ us hl => match us, hl with | [_, _], _ => rfl)
      (case a => k_is); (case l => k_is); (case c => k_is); (case k => k_is)
    have d_play_of : Nh.Fd (L2.KOf KX) mg "play_of" Nh.st_play_of ["town", "fears"] := by
      delta L2.KOf
      refine' Nh.fd_mk KX G ?a ?l ?c ?k (fun _ _ _ _ _ _ us hl => match us, hl with | [_, _], _ => rfl)
      (case a => k_is); (case l => k_is); (case c => k_is); (case k => k_is)
    have d__law_same : Nh.Fd (L2.KOf KX) mg "_law_same" Nh.st__law_same ["_law_actual", "_law_due"] := by
      delta L2.KOf
      refine' Nh.fd_mk KX G ?a ?l ?c ?k (fun _ _ _ _ _ _ us hl => match us, hl with | [_, _], _ => rfl)
      (case a => k_is); (case l => k_is); (case c => k_is); (case k => k_is)
    have d__law_lots : Nh.Fd (L2.KOf KX) mg "_law_lots" Nh.st__law_lots ["_law_dread_here"] := by
      delta L2.KOf
      refine' Nh.fd_mk KX G ?a ?l ?c ?k (fun _ _ _ _ _ _ us hl => match us, hl with | [_], _ => rfl)
      (case a => k_is); (case l => k_is); (case c => k_is); (case k => k_is)
    have d__law_rests : Nh.Fd (L2.KOf KX) mg "_law_rests" Nh.st__law_rests ["_law_ground_here", "_law_lots_here"] := by
      delta L2.KOf
      refine' Nh.fd_mk KX G ?a ?l ?c ?k (fun _ _ _ _ _ _ us hl => match us, hl with | [_, _], _ => rfl)
      (case a => k_is); (case l => k_is); (case c => k_is); (case k => k_is)
    have d__law_widest : Nh.Fd (L2.KOf KX) mg "_law_widest" Nh.st__law_widest ["_law_ground_here", "_law_some"] := by
      delta L2.KOf
      refine' Nh.fd_mk KX G ?a ?l ?c ?k (fun _ _ _ _ _ _ us hl => match us, hl with | [_, _], _ => rfl)
      (case a => k_is); (case l => k_is); (case c => k_is); (case k => k_is)
    have d__law_play : Nh.Fd (L2.KOf KX) mg "_law_play" Nh.st__law_play ["_law_ground_here", "_law_lots_here"] := by
      delta L2.KOf
      refine' Nh.fd_mk KX G ?a ?l ?c ?k (fun _ _ _ _ _ _ us hl => match us, hl with | [_, _], _ => rfl)
      (case a => k_is); (case l => k_is); (case c => k_is); (case k => k_is)
    have d__law_parted : Nh.Fd (L2.KOf KX) mg "_law_parted" Nh.st__law_parted ["_law_ground_here", "_law_lots_here"] := by
      delta L2.KOf
      refine' Nh.fd_mk KX G ?a ?l ?c ?k (fun _ _ _ _ _ _ us hl => match us, hl with | [_, _], _ => rfl)
      (case a => k_is); (case l => k_is); (case c => k_is); (case k => k_is)
    have d_parted : Nh.Fd (L2.KOf KX) mg "parted" Nh.st_parted ["town", "lots"] := by
      delta L2.KOf
      refine' Nh.fd_mk KX G ?a ?l ?c ?k (fun _ _ _ _ _ _ us hl => match us, hl with | [_, _], _ => rfl)
      (case a => k_is); (case l => k_is); (case c => k_is); (case k => k_is)
    have d_three_by : Nh.Fd (L2.KOf KX) mg "three_by" Nh.st_three_by ["town", "fears"] := by
      delta L2.KOf
      refine' Nh.fd_mk KX G ?a ?l ?c ?k (fun _ _ _ _ _ _ us hl => match us, hl with | [_, _], _ => rfl)
      (case a => k_is); (case l => k_is); (case c => k_is); (case k => k_is)
    have d_bound_by : Nh.Fd (L2.KOf KX) mg "bound_by" Nh.st_bound_by ["town", "fears"] := by
      delta L2.KOf
      refine' Nh.fd_mk KX G ?a ?l ?c ?k (fun _ _ _ _ _ _ us hl => match us, hl with | [_, _], _ => rfl)
      (case a => k_is); (case l => k_is); (case c => k_is); (case k => k_is)
    have d_bound_of : Nh.Fd (L2.KOf KX) mg "bound_of" Nh.st_bound_of ["town", "fears"] := by
      delta L2.KOf
      refine' Nh.fd_mk KX G ?a ?l ?c ?k (fun _ _ _ _ _ _ us hl => match us, hl with | [_, _], _ => rfl)
      (case a => k_is); (case l => k_is); (case c => k_is); (case k => k_is)
    have d_met_from : Nh.Fd (L2.KOf KX) mg "met_from" Nh.st_met_from ["town", "towers", "one"] := by
      delta L2.KOf
      refine' Nh.fd_mk KX G ?a ?l ?c ?k (fun _ _ _ _ _ _ us hl => match us, hl with | [_, _, _], _ => rfl)
      (case a => k_is); (case l => k_is); (case c => k_is); (case k => k_is)
    have d_two_by : Nh.Fd (L2.KOf KX) mg "two_by" Nh.st_two_by ["town", "fears"] := by
      delta L2.KOf
      refine' Nh.fd_mk KX G ?a ?l ?c ?k (fun _ _ _ _ _ _ us hl => match us, hl with | [_, _], _ => rfl)
      (case a => k_is); (case l => k_is); (case c => k_is); (case k => k_is)
    have d_is_bounded_by : Nh.Fd (L2.KOf KX) mg "is_bounded_by" Nh.st_is_bounded_by ["town", "fears"] := by
      delta L2.KOf
      refine' Nh.fd_mk KX G ?a ?l ?c ?k (fun _ _ _ _ _ _ us hl => match us, hl with | [_, _], _ => rfl)
      (case a => k_is); (case l => k_is); (case c => k_is); (case k => k_is)
    have d_is_bounded : Nh.Fd (L2.KOf KX) mg "is_bounded" Nh.st_is_bounded ["town", "fears"] := by
      delta L2.KOf
      refine' Nh.fd_mk KX G ?a ?l ?c ?k (fun _ _ _ _ _ _ us hl => match us, hl with | [_, _], _ => rfl)
      (case a => k_is); (case l => k_is); (case c => k_is); (case k => k_is)
    have d__law_are_told : Nh.Fd (L2.KOf KX) mg "_law_are_told" Nh.st__law_are_told ["_law_ground_here", "_law_dread_here"] := by
      delta L2.KOf
      refine' Nh.fd_mk KX G ?a ?l ?c ?k (fun _ _ _ _ _ _ us hl => match us, hl with | [_, _], _ => rfl)
      (case a => k_is); (case l => k_is); (case c => k_is); (case k => k_is)
    have d_law : Nh.Fd (L2.KOf KX) mg "law" Nh.st_law ["_law_script"] := by
      delta L2.KOf
      refine' Nh.fd_mk KX G ?a ?l ?c ?k (fun _ _ _ _ _ _ us hl => match us, hl with | [_], _ => rfl)
      (case a => k_is); (case l => k_is); (case c => k_is); (case k => k_is)
    obtain ⟨f, fd, D, F⟩ := Nh.all_law (P := PySem.Challenge.rw_nearhours_k49_whole_plays.prog) (w := w) B M d__law_feed d__law_draw d__law_any d__law_wires d__law_ground d__law_dread d_want d_is_tuple_of d_is_name d_are_ascending d_are_names d_is_towers d_is_integer d_are_integers d_is_wire_for d_wire_fault d_town_fault d_want_town d_is_tower_of d_is_lot d_fears_fault d_want_fears d_want_fearful d_lot_less d_twos_of d_choices_of d_least_sum d_rest_of d_play_by d_play_of d__law_same d__law_lots d__law_rests d__law_widest d__law_play d__law_parted d_parted d_three_by d_bound_by d_bound_of d_met_from d_two_by d_is_bounded_by d_is_bounded d__law_are_told d_law
    have e := hmg.symm.trans D.g
    cases e
    obtain ⟨oc, od, kV, doc, pm, an, cdv, ct, osl, rfl, _⟩ := D.F.ex
    exact ⟨_, fun s v => .of_eq rfl, fun base _ _ => F base⟩
