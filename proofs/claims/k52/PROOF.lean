import PyProof.Rows.All
import Wide.All
import OpenK.AllK
import Wide.FinOn
import PySem.Challenge.RW_worknets_k52_rows_of_integers_put_otherw
import HandS.ForMost
import HandS.Wide
import HandS.Flow
import HandS.Style
import HandS.Conv
import HandS.Star
import HandS.TupAny
import HandS.TupMul
import HandS.Zip
import HandS.IsInst
import HandS.Lambda
import HandS.Codes
import KE.GoesNew
import KE.GoesMore
import HandS.EndTab
import KE.KDictZip
import HandS.Keys
import KE.KMinKey
import HandS.Evl
set_option linter.all false
/-! Lattices of integer vectors: echelon forms and that the reduced one is unique. -/
namespace K52
abbrev Vec := Nat → Int
/-- what whole multiples of members of S make -/
inductive Lat (S : Vec → Prop) : Vec → Prop where
  | zero : Lat S (fun _ => 0)
  | step {v u : Vec} (t : Int) : Lat S v → S u → Lat S (fun j => v j + t * u j)
namespace Lat
variable {S S' : Vec → Prop}
theorem of {u : Vec} (h : S u) : Lat S u := by
  have := Lat.step 1 .zero h
  have e : (fun j => (fun _ => (0 : Int)) j + 1 * u j) = u := by funext j; grind
  rw [e] at this
  exact this
theorem axpy {v w : Vec} (t : Int) (hv : Lat S v) (hw : Lat S w) : Lat S (fun j => v j + t * w j) := by
  induction hw with
  | zero =>
    have e : (fun j => v j + t * (fun _ => (0 : Int)) j) = v := by funext j; grind
    rw [e]
    exact hv
  | @step a u s ha hu ih =>
    have := Lat.step (t * s) ih hu
    have e : (fun j => (fun j => v j + t * a j) j + t * s * u j) = fun j => v j + t * (fun j => a j + s * u j) j := by funext j; grind
    rw [e] at this
    exact this
theorem add {v w : Vec} (hv : Lat S v) (hw : Lat S w) : Lat S (fun j => v j + w j) := by
  have := axpy 1 hv hw
  have e : (fun j => v j + 1 * w j) = fun j => v j + w j := by funext j; grind
  rw [e] at this
  exact this
theorem smul {v : Vec} (t : Int) (hv : Lat S v) : Lat S (fun j => t * v j) := by
  have := axpy t Lat.zero hv
  have e : (fun j => (fun _ => (0 : Int)) j + t * v j) = fun j => t * v j := by funext j; grind
  rw [e] at this
  exact this
theorem sub {v w : Vec} (hv : Lat S v) (hw : Lat S w) : Lat S (fun j => v j - w j) := by
  have := axpy (-1) hv hw
  have e : (fun j => v j + -1 * w j) = fun j => v j - w j := by funext j; grind
  rw [e] at this
  exact this
theorem mono {v : Vec} (h : ∀ u, S u → Lat S' u) (hv : Lat S v) : Lat S' v := by
  induction hv with
  | zero => exact .zero
  | step t _ hu ih => exact axpy t ih (h _ hu)
theorem zero_at {v : Vec} {j : Nat} (h : ∀ u, S u → u j = 0) (hv : Lat S v) : v j = 0 := by
  induction hv with
  | zero => rfl
  | @step a u t _ hu ih =>
    have h1 := h _ hu
    show a j + t * u j = 0
    rw [ih, h1]
    grind
end Lat
/-- the lattice of a list of rows -/
abbrev LatL (F : List Vec) : Vec → Prop := Lat (· ∈ F)
theorem lat_nil {v : Vec} (h : LatL [] v) : v = fun _ => 0 := by
  induction h with
  | zero => rfl
  | step t _ hu _ => cases hu
theorem lat_cons {f : Vec} {F : List Vec} {v : Vec} (h : LatL (f :: F) v) : ∃ c w, LatL F w ∧ v = fun j => c * f j + w j := by
  induction h with
  | zero => exact ⟨0, fun _ => 0, .zero, by funext j; grind⟩
  | @step a u t _ hu ih =>
    obtain ⟨c, w, hw, rfl⟩ := ih
    rcases List.mem_cons.mp hu with rfl | hu
    · exact ⟨c + t, w, hw, by funext j; grind⟩
    · exact ⟨c, fun j => w j + t * u j, .step t hw hu, by funext j; grind⟩
theorem lat_head {f : Vec} {F : List Vec} : LatL (f :: F) f := .of List.mem_cons_self
theorem lat_tail {f : Vec} {F : List Vec} {v : Vec} (h : LatL F v) : LatL (f :: F) v := h.mono fun u hu => .of (List.mem_cons_of_mem _ hu)
theorem lat_of_cons {f : Vec} {F : List Vec} {w : Vec} (c : Int) (h : LatL F w) : LatL (f :: F) (fun j => c * f j + w j) := (lat_head.smul c).add (lat_tail h)
/-- steps down from the left, the heads' entries positive -/
def Ech : List Vec → List Nat → Prop
  | [], [] => True
  | f :: F, h :: hs => (∀ j, j < h → f j = 0) ∧ 0 < f h ∧ (∀ g ∈ F, ∀ j, j ≤ h → g j = 0) ∧ Ech F hs
  | _, _ => False
/-- above a head all is less than it, and not negative -/
def Red : List Vec → List Nat → Prop
  | f :: F, _ :: hs => (∀ p ∈ F.zip hs, 0 ≤ f p.2 ∧ f p.2 < p.1 p.2) ∧ Red F hs
  | _, _ => True
theorem Ech.len : ∀ {F : List Vec} {hs : List Nat}, Ech F hs → F.length = hs.length
  | [], [], _ => rfl
  | f :: F, h :: hs, e => by simp [Ech.len e.2.2.2]
  | [], _ :: _, e => e.elim
  | _ :: _, [], e => e.elim
/-- a vector of the lattice that is less than the heads at all heads is nothing -/
theorem red_zero : ∀ {F : List Vec} {hs : List Nat} {v : Vec}, Ech F hs → LatL F v → (∀ p ∈ F.zip hs, -(p.1 p.2) < v p.2 ∧ v p.2 < p.1 p.2) → v = fun _ => 0
  | [], [], v, _, hv, _ => lat_nil hv
  | f :: F, h :: hs, v, e, hv, hb => by
    obtain ⟨e1, e2, e3, e4⟩ := e
    obtain ⟨c, w, hw, rfl⟩ := lat_cons hv
    have wz : w h = 0 := hw.zero_at fun u hu => e3 u hu h (Nat.le_refl _)
    have b := hb (f, h) (by simp)
    simp only [wz] at b
    have c0 : c = 0 := by
      rcases Int.lt_trichotomy c 0 with z | z | z
      · have : c * f h ≤ -1 * f h := Int.mul_le_mul_of_nonneg_right (by omega) (by omega)
        omega
      · exact z
      · have : 1 * f h ≤ c * f h := Int.mul_le_mul_of_nonneg_right (by omega) (by omega)
        omega
    subst c0
    have ew : (fun j => 0 * f j + w j) = w := by funext j; grind
    rw [ew] at hb ⊢
    exact red_zero e4 hw fun p hp => hb p (by simp [hp])
  | [], _ :: _, _, e, _, _ => e.elim
  | _ :: _, [], _, e, _, _ => e.elim
/-- the reduced echelon form is unique -/
theorem hnf_unique : ∀ {F G : List Vec} {hs ks : List Nat}, Ech F hs → Red F hs → Ech G ks → Red G ks → (∀ v, LatL F v ↔ LatL G v) → F = G ∧ hs = ks
  | [], [], [], [], _, _, _, _, _ => ⟨rfl, rfl⟩
  | [], g :: G, [], k :: ks, _, _, e, _, h => by
    have := lat_nil ((h g).mpr lat_head)
    have z := e.2.1
    rw [this] at z
    exact absurd z (Int.lt_irrefl 0)
  | f :: F, [], h1 :: hs, [], e, _, _, _, h => by
    have := lat_nil ((h f).mp lat_head)
    have z := e.2.1
    rw [this] at z
    exact absurd z (Int.lt_irrefl 0)
  | f :: F, g :: G, hf :: hs, hg :: ks, eF, rF, eG, rG, h => by
    obtain ⟨f1, f2, f3, f4⟩ := eF
    obtain ⟨g1, g2, g3, g4⟩ := eG
    -- the heads
    have zF : ∀ v, LatL (f :: F) v → ∀ j, j < hf → v j = 0 := fun v hv j hj => hv.zero_at fun u hu => by
      rcases List.mem_cons.mp hu with rfl | hu
      · exact f1 j hj
      · exact f3 u hu j (Nat.le_of_lt hj)
    have zG : ∀ v, LatL (g :: G) v → ∀ j, j < hg → v j = 0 := fun v hv j hj => hv.zero_at fun u hu => by
      rcases List.mem_cons.mp hu with rfl | hu
      · exact g1 j hj
      · exact g3 u hu j (Nat.le_of_lt hj)
    have gF := (h g).mpr lat_head
    have fG := (h f).mp lat_head
    have ehk : hf = hg := by
      rcases Nat.lt_trichotomy hf hg with z | z | z
      · have := zG f fG hf z; omega
      · exact z
      · have := zF g gF hg z; omega
    subst ehk
    obtain ⟨c, w, hw, ew⟩ := lat_cons gF
    obtain ⟨d, x, hx, ex⟩ := lat_cons fG
    have w0 : w hf = 0 := hw.zero_at fun u hu => f3 u hu hf (Nat.le_refl _)
    have x0 : x hf = 0 := hx.zero_at fun u hu => g3 u hu hf (Nat.le_refl _)
    have a1 : g hf = c * f hf := by
      have := congrFun ew hf
      simp only [w0] at this
      omega
    have a2 : f hf = d * g hf := by
      have := congrFun ex hf
      simp only [x0] at this
      omega
    have cpos : 0 < c := by
      rcases Int.lt_or_le 0 c with z | z
      · exact z
      · have := Int.mul_le_mul_of_nonneg_right z (Int.le_of_lt f2)
        omega
    have dpos : 0 < d := by
      rcases Int.lt_or_le 0 d with z | z
      · exact z
      · have := Int.mul_le_mul_of_nonneg_right z (Int.le_of_lt g2)
        omega
    have b1 : 1 * f hf ≤ c * f hf := Int.mul_le_mul_of_nonneg_right (by omega) (by omega)
    have b2 : 1 * g hf ≤ d * g hf := Int.mul_le_mul_of_nonneg_right (by omega) (by omega)
    have lead : f hf = g hf := by omega
    -- what lies below
    have sub : ∀ {A B : List Vec} {a b : Vec}, (∀ v, LatL (a :: A) v → LatL (b :: B) v) → (∀ u ∈ A, ∀ j, j ≤ hf → u j = 0) → (∀ u ∈ B, ∀ j, j ≤ hf → u j = 0) → 0 < b hf → ∀ v, LatL A v → LatL B v := fun {A B a b} hAB zA zB hb v hv => by
      obtain ⟨c, w, hw, ew⟩ := lat_cons (hAB v (lat_tail hv))
      have v0 : v hf = 0 := hv.zero_at fun u hu => zA u hu hf (Nat.le_refl _)
      have w0 : w hf = 0 := hw.zero_at fun u hu => zB u hu hf (Nat.le_refl _)
      have := congrFun ew hf
      simp only [v0, w0] at this
      have c0 : c = 0 := by
        rcases Int.mul_eq_zero.mp (show c * b hf = 0 by omega) with z | z
        · exact z
        · omega
      subst c0
      have e : v = w := by
        rw [ew]
        funext j
        grind
      rw [e]
      exact hw
    obtain ⟨eFG, ehs⟩ := hnf_unique f4 rF.2 g4 rG.2 fun v => ⟨sub (fun v hv => (h v).mp hv) f3 g3 g2 v, sub (fun v hv => (h v).mpr hv) g3 f3 f2 v⟩
    subst eFG ehs
    -- the rows themselves
    have dl : LatL F (fun j => f j - g j) := by
      obtain ⟨c, w, hw, ew⟩ := lat_cons (lat_head.sub gF : LatL (f :: F) fun j => f j - g j)
      have w0 : w hf = 0 := hw.zero_at fun u hu => f3 u hu hf (Nat.le_refl _)
      have := congrFun ew hf
      simp only [w0, lead] at this
      have c0 : c = 0 := by
        rcases Int.mul_eq_zero.mp (show c * g hf = 0 by omega) with z | z
        · exact z
        · omega
      subst c0
      have e : (fun j => f j - g j) = w := by
        rw [ew]
        funext j
        grind
      rw [e]
      exact hw
    have dz := red_zero f4 dl fun p hp => by
      have b1 := rF.1 p hp
      have b2 := rG.1 p hp
      omega
    have efg : f = g := by
      funext j
      have z : f j - g j = 0 := congrFun dz j
      omega
    rw [efg]
    exact ⟨rfl, rfl⟩
  | [], _, _ :: _, _, e, _, _, _, _ => e.elim
  | _ :: _, _, [], _, e, _, _, _, _ => e.elim
  | _, [], _, _ :: _, _, _, e, _, _ => e.elim
  | _, _ :: _, _, [], _, _, e, _, _ => e.elim
end K52
set_option Elab.async false
set_option linter.all false
set_option maxRecDepth 100000
set_option maxHeartbeats 1000000
/-! A meaning of Python by Lean functions on plain data, with lists that a name owns: the base. -/
namespace Sm
open PySem PySem.Spec PyProof.Rows L2
abbrev D := PyData
abbrev AP := Addr → Prop

/-- what may be read of a list that nobody will write any more -/
def FzL (H : Hp) (Z : AP) (a : Addr) (xs : List V) : Prop := H a = some (.lst xs) ∧ ¬ Z a
/-- the script, as it came in -/
def ScrL (K : PySem.W.Frag) (H : Hp) (Z : AP) (a : Addr) (xs : List V) : Prop := FzL H Z a xs ∨ (∃ o, H a = some (.frz o (.lst xs))) ∨ SqL K (fun _ => none) a xs
theorem sqL_none {K : PySem.W.Frag} {H : Hp} {a : Addr} {xs : List V} (h : SqL K (fun _ => none) a xs) : SqL K H a xs := by
  rcases h with (h | ⟨o, h⟩) | h
  · cases h
  · cases h
  · exact .inr h
theorem FzL.sq {K : PySem.W.Frag} {H : Hp} {Z : AP} {a : Addr} {xs : List V} (h : FzL H Z a xs) : SqL K H a xs := .inl (.inl h.1)
theorem ScrL.sq {K : PySem.W.Frag} {H : Hp} {Z : AP} {a : Addr} {xs : List V} (h : ScrL K H Z a xs) : SqL K H a xs := by
  rcases h with h | ⟨o, h⟩ | h
  · exact h.sq
  · exact .inl (.inr ⟨o, h⟩)
  · exact sqL_none h

mutual
/-- the value stands for the datum; its lists are no longer written -/
def Rep (K : PySem.W.Frag) (H : Hp) (Z : AP) : D → V → Prop
  | .none, v => v = .non
  | .bool b, v => v = .bl b
  | .int i, v => v = .int i
  | .str x, v => v = .str x
  | .list ds, v => ∃ a vs, v = .ref a ∧ FzL H Z a vs ∧ Reps K H Z ds vs
  | .tuple ds, v => ∃ a vs, v = .ref a ∧ SqT K H a vs ∧ Reps K H Z ds vs
  | .dict _, _ => False
def Reps (K : PySem.W.Frag) (H : Hp) (Z : AP) : List D → List V → Prop
  | [], vs => vs = []
  | d :: ds, vs => ∃ v r, vs = v :: r ∧ Rep K H Z d v ∧ Reps K H Z ds r
end

def Zo (B U : AP) : AP := fun a => U a ∨ B a
/-- what a step may do: what is not owned stays, tables aside; what is owned behind was owned, or is new -/
structure Stp (H : Hp) (U : AP) (H' : Hp) (U' : AP) : Prop where
  keep : ∀ b o, H b = some o → ¬ U b → (∀ ps, o ≠ .tbl ps) → H' b = some o
  own : ∀ b, U' b → U b ∨ H b = none
  there : ∀ b, H b ≠ none → H' b ≠ none
theorem Stp.refl {H : Hp} {U : AP} : Stp H U H U := ⟨fun _ _ h _ _ => h, fun _ h => .inl h, fun _ h => h⟩
theorem Stp.trans {H H1 H2 : Hp} {U U1 U2 : AP} (a : Stp H U H1 U1) (b : Stp H1 U1 H2 U2) : Stp H U H2 U2 where
  keep := fun c o h n t => b.keep c o (a.keep c o h n t) (fun u => by
    rcases a.own c u with z | z
    · exact n z
    · rw [z] at h; cases h) t
  own := fun c u => by
    rcases b.own c u with z | z
    · exact a.own c z
    · refine .inr ?_
      by_cases q : H c = none
      · exact q
      · exact absurd z (a.there c q)
  there := fun c h => b.there c (a.there c h)
def Dom (H : Hp) (U : AP) : Prop := ∀ a, U a → ∃ vs, H a = some (.lst vs)

theorem sqT_stp {K : PySem.W.Frag} {H H' : Hp} {U U' : AP} (dm : Dom H U) (s : Stp H U H' U') {a : Addr} {xs : List V} (h : SqT K H a xs) : SqT K H' a xs := by
  rcases h with (h | ⟨o, h⟩) | h
  · refine .inl (.inl (s.keep _ _ h (fun u => ?_) (fun ps q => by cases q)))
    obtain ⟨vs, e⟩ := dm _ u
    rw [h] at e; cases e
  · refine .inl (.inr ⟨o, s.keep _ _ h (fun u => ?_) (fun ps q => by cases q)⟩)
    obtain ⟨vs, e⟩ := dm _ u
    rw [h] at e; cases e
  · exact .inr h
theorem fzL_stp {H H' : Hp} {B B' U U' : AP} (s : Stp H U H' U') (hB : ∀ a, B' a → B a ∨ H a = none) {a : Addr} {xs : List V} (h : FzL H (Zo B U) a xs) : FzL H' (Zo B' U') a xs := by
  obtain ⟨h, n⟩ := h
  have nU : ¬ U a := fun u => n (.inl u)
  refine ⟨s.keep _ _ h nU (fun ps q => by cases q), fun z => ?_⟩
  rcases z with z | z
  · rcases s.own a z with q | q
    · exact nU q
    · rw [q] at h; cases h
  · rcases hB a z with q | q
    · exact n (.inr q)
    · rw [q] at h; cases h
theorem ScrL.mono {K : PySem.W.Frag} {H : Hp} {Z Z' : AP} (hz : ∀ a, Z' a → Z a) {a : Addr} {xs : List V} (h : ScrL K H Z a xs) : ScrL K H Z' a xs := by
  rcases h with h | h
  · exact .inl ⟨h.1, fun q => h.2 (hz a q)⟩
  · exact .inr h
theorem scrL_stp {K : PySem.W.Frag} {H H' : Hp} {B U U' : AP} (dm : Dom H U) (s : Stp H U H' U') {a : Addr} {xs : List V} (h : ScrL K H (Zo B U) a xs) : ScrL K H' (Zo B U') a xs := by
  rcases h with h | ⟨o, h⟩ | h
  · exact .inl (fzL_stp s (fun _ z => .inl z) h)
  · refine .inr (.inl ⟨o, s.keep _ _ h (fun u => ?_) (fun ps q => by cases q)⟩)
    obtain ⟨vs, e⟩ := dm _ u
    rw [h] at e; cases e
  · exact .inr (.inr h)
mutual
theorem Rep.stpB {K : PySem.W.Frag} {H H' : Hp} {B B' U U' : AP} (dm : Dom H U) (s : Stp H U H' U') (hB : ∀ a, B' a → B a ∨ H a = none) : ∀ (d : D) (v : V), Rep K H (Zo B U) d v → Rep K H' (Zo B' U') d v
  | .none, _, h => h
  | .bool _, _, h => h
  | .int _, _, h => h
  | .str _, _, h => h
  | .list ds, _, h => by
    obtain ⟨a, vs, e, f, r⟩ := h
    exact ⟨a, vs, e, fzL_stp s hB f, Reps.stpB dm s hB ds vs r⟩
  | .tuple ds, _, h => by
    obtain ⟨a, vs, e, f, r⟩ := h
    exact ⟨a, vs, e, sqT_stp dm s f, Reps.stpB dm s hB ds vs r⟩
  | .dict _, _, h => h
theorem Reps.stpB {K : PySem.W.Frag} {H H' : Hp} {B B' U U' : AP} (dm : Dom H U) (s : Stp H U H' U') (hB : ∀ a, B' a → B a ∨ H a = none) : ∀ (ds : List D) (vs : List V), Reps K H (Zo B U) ds vs → Reps K H' (Zo B' U') ds vs
  | [], _, h => h
  | d :: ds, _, h => by
    obtain ⟨v, r, e, h1, h2⟩ := h
    exact ⟨v, r, e, Rep.stpB dm s hB d v h1, Reps.stpB dm s hB ds r h2⟩
end
theorem Rep.stp {K : PySem.W.Frag} {H H' : Hp} {B U U' : AP} (dm : Dom H U) (s : Stp H U H' U') (d : D) (v : V) (h : Rep K H (Zo B U) d v) : Rep K H' (Zo B U') d v := Rep.stpB dm s (fun _ z => .inl z) d v h
theorem Reps.stp {K : PySem.W.Frag} {H H' : Hp} {B U U' : AP} (dm : Dom H U) (s : Stp H U H' U') (ds : List D) (vs : List V) (h : Reps K H (Zo B U) ds vs) : Reps K H' (Zo B U') ds vs := Reps.stpB dm s (fun _ z => .inl z) ds vs h
mutual
theorem Rep.mono {K : PySem.W.Frag} {H : Hp} {Z Z' : AP} (hz : ∀ a, Z' a → Z a) : ∀ (d : D) (v : V), Rep K H Z d v → Rep K H Z' d v
  | .none, _, h => h
  | .bool _, _, h => h
  | .int _, _, h => h
  | .str _, _, h => h
  | .list ds, _, h => by
    obtain ⟨a, vs, e, f, r⟩ := h
    exact ⟨a, vs, e, ⟨f.1, fun q => f.2 (hz a q)⟩, Reps.mono hz ds vs r⟩
  | .tuple ds, _, h => by
    obtain ⟨a, vs, e, f, r⟩ := h
    exact ⟨a, vs, e, f, Reps.mono hz ds vs r⟩
  | .dict _, _, h => h
theorem Reps.mono {K : PySem.W.Frag} {H : Hp} {Z Z' : AP} (hz : ∀ a, Z' a → Z a) : ∀ (ds : List D) (vs : List V), Reps K H Z ds vs → Reps K H Z' ds vs
  | [], _, h => h
  | d :: ds, _, h => by
    obtain ⟨v, r, e, h1, h2⟩ := h
    exact ⟨v, r, e, Rep.mono hz d v h1, Reps.mono hz ds r h2⟩
end
section
variable {K : PySem.W.Frag} {H : Hp} {Z : AP}
theorem Reps.length : ∀ {ds : List D} {vs : List V}, Reps K H Z ds vs → vs.length = ds.length
  | [], _, h => by cases h; rfl
  | d :: ds, _, h => by
    obtain ⟨v, r, rfl, _, h2⟩ := h
    simp [Reps.length h2]
theorem Reps.get : ∀ {ds : List D} {vs : List V}, Reps K H Z ds vs → ∀ {i : Nat} {d : D}, ds[i]? = some d → ∃ v, vs[i]? = some v ∧ Rep K H Z d v
  | [], _, _, i, d, e => by simp at e
  | d0 :: ds, _, h, i, d, e => by
    obtain ⟨v, r, rfl, h1, h2⟩ := h
    cases i with
    | zero =>
      simp at e
      subst e
      exact ⟨v, rfl, h1⟩
    | succ i =>
      obtain ⟨w, e1, e2⟩ := Reps.get h2 (i := i) (d := d) (by simpa using e)
      exact ⟨w, by simpa using e1, e2⟩
theorem Reps.append : ∀ {ds es : List D} {vs ws : List V}, Reps K H Z ds vs → Reps K H Z es ws → Reps K H Z (ds ++ es) (vs ++ ws)
  | [], _, _, _, h, h' => by cases h; exact h'
  | d :: ds, _, _, _, h, h' => by
    obtain ⟨v, r, rfl, h1, h2⟩ := h
    exact ⟨v, _, rfl, h1, Reps.append h2 h'⟩
theorem Reps.nil : Reps K H Z [] [] := rfl
theorem Reps.one {d : D} {v : V} (h : Rep K H Z d v) : Reps K H Z [d] [v] := ⟨v, [], rfl, h, rfl⟩
theorem Reps.cons {d : D} {v : V} {ds : List D} {vs : List V} (h : Rep K H Z d v) (h2 : Reps K H Z ds vs) : Reps K H Z (d :: ds) (v :: vs) := ⟨v, vs, rfl, h, h2⟩
theorem Reps.drop : ∀ {ds : List D} {vs : List V} (n : Nat), Reps K H Z ds vs → Reps K H Z (ds.drop n) (vs.drop n)
  | _, _, 0, h => h
  | [], _, n + 1, h => by cases h; rfl
  | d :: ds, _, n + 1, h => by
    obtain ⟨v, r, rfl, h1, h2⟩ := h
    exact Reps.drop n h2
theorem Reps.take : ∀ {ds : List D} {vs : List V} (n : Nat), Reps K H Z ds vs → Reps K H Z (ds.take n) (vs.take n)
  | _, _, 0, h => rfl
  | [], _, n + 1, h => by cases h; rfl
  | d :: ds, _, n + 1, h => by
    obtain ⟨v, r, rfl, h1, h2⟩ := h
    exact ⟨v, _, rfl, h1, Reps.take n h2⟩
theorem Reps.set : ∀ {ds : List D} {vs : List V} (n : Nat) {d : D} {v : V}, Reps K H Z ds vs → Rep K H Z d v → Reps K H Z (ds.set n d) (vs.set n v)
  | [], _, n, _, _, h, _ => by cases h; rfl
  | d :: ds, _, 0, _, _, h, k => by
    obtain ⟨v, r, rfl, h1, h2⟩ := h
    exact ⟨_, _, rfl, k, h2⟩
  | d :: ds, _, n + 1, _, _, h, k => by
    obtain ⟨v, r, rfl, h1, h2⟩ := h
    exact ⟨v, _, rfl, h1, Reps.set n h2 k⟩
theorem Reps.reverse : ∀ {ds : List D} {vs : List V}, Reps K H Z ds vs → Reps K H Z ds.reverse vs.reverse
  | [], _, h => by cases h; rfl
  | d :: ds, _, h => by
    obtain ⟨v, r, rfl, h1, h2⟩ := h
    rw [List.reverse_cons, List.reverse_cons]
    exact (Reps.reverse h2).append (.one h1)
theorem Reps.repl {ds : List D} {vs : List V} (h : Reps K H Z ds vs) : ∀ n : Nat, Reps K H Z (List.replicate n ds).flatten (List.replicate n vs).flatten
  | 0 => rfl
  | n + 1 => by
    rw [List.replicate_succ, List.replicate_succ, List.flatten_cons, List.flatten_cons]
    exact h.append (Reps.repl h n)
theorem Reps.ints : ∀ (ns : List Int), Reps K H Z (ns.map PyData.int) (ns.map V.int)
  | [] => rfl
  | n :: ns => ⟨_, _, rfl, rfl, Reps.ints ns⟩
theorem Reps.ints_inv : ∀ {ns : List Int} {vs : List V}, Reps K H Z (ns.map PyData.int) vs → vs = ns.map V.int
  | [], _, h => h
  | n :: ns, _, h => by
    obtain ⟨v, r, rfl, h1, h2⟩ := h
    rw [Reps.ints_inv h2, List.map_cons]
    cases h1
    rfl
theorem Reps.bools_inv : ∀ {bs : List Bool} {vs : List V}, Reps K H Z (bs.map PyData.bool) vs → vs = bs.map V.bl
  | [], _, h => h
  | n :: ns, _, h => by
    obtain ⟨v, r, rfl, h1, h2⟩ := h
    rw [Reps.bools_inv h2, List.map_cons]
    cases h1
    rfl
mutual
theorem Rep.dp : ∀ (d : D) (v : V), Rep K H Z d v → Dp K H v d
  | .none, _, h => by cases h; exact .non
  | .bool _, _, h => by cases h; exact .bl _
  | .int _, _, h => by cases h; exact .int _
  | .str _, _, h => by cases h; exact .str _
  | .list ds, _, h => by
    obtain ⟨a, vs, rfl, f, r⟩ := h
    exact .lst f.sq (Reps.dp ds vs r)
  | .tuple ds, _, h => by
    obtain ⟨a, vs, rfl, f, r⟩ := h
    exact .tup f (Reps.dp ds vs r)
  | .dict _, _, h => h.elim
theorem Reps.dp : ∀ (ds : List D) (vs : List V), Reps K H Z ds vs → DpAll K H vs ds
  | [], _, h => by cases h; exact .nil
  | d :: ds, _, h => by
    obtain ⟨v, r, rfl, h1, h2⟩ := h
    exact .cons (Rep.dp d v h1) (Reps.dp ds r h2)
end
end

/-- a datum that may be read at its top, owned or not -/
def Rdb (K : PySem.W.Frag) (H : Hp) (Z : AP) : D → V → Prop
  | .list ds, v => ∃ a vs, v = .ref a ∧ H a = some (.lst vs) ∧ Reps K H Z ds vs
  | d, v => Rep K H Z d v
theorem Rep.rd {K : PySem.W.Frag} {H : Hp} {Z : AP} : ∀ {d : D} {v : V}, Rep K H Z d v → Rdb K H Z d v
  | .none, _, h => h
  | .bool _, _, h => h
  | .int _, _, h => h
  | .str _, _, h => h
  | .list ds, _, h => by
    obtain ⟨a, vs, e, f, r⟩ := h
    exact ⟨a, vs, e, f.1, r⟩
  | .tuple ds, _, h => h
  | .dict _, _, h => h
theorem Rdb.dp {K : PySem.W.Frag} {H : Hp} {Z : AP} : ∀ {d : D} {v : V}, Rdb K H Z d v → Dp K H v d
  | .none, _, h => Rep.dp (Z := Z) _ _ h
  | .bool _, _, h => Rep.dp (Z := Z) _ _ h
  | .int _, _, h => Rep.dp (Z := Z) _ _ h
  | .str _, _, h => Rep.dp (Z := Z) _ _ h
  | .list ds, _, h => by
    obtain ⟨a, vs, rfl, f, r⟩ := h
    exact .lst (.inl (.inl f)) (Reps.dp ds vs r)
  | .tuple ds, _, h => Rep.dp _ _ h
  | .dict _, _, h => Rep.dp (Z := Z) _ _ h

/-! ### slots, results, states -/
inductive Sl where
  | no | val (d : D) | own (p : Bool) (d : D) | scr (ns : List Int)
abbrev Env' := List Sl
inductive R where
  | val (d : D) | fr (d : D) | var (i : Nat)
/-- B: what callers own; P: the list handed in to be changed; T: the tables of code objects -/
structure Cn where
  B : AP
  P : Addr
  T : List (Addr × Str)
def OwnAt (K : PySem.W.Frag) (H : Hp) (Z : AP) (a : Addr) : D → Prop
  | .list ds => ∃ vs, H a = some (.lst vs) ∧ Reps K H Z ds vs
  | _ => False
structure Stt (K : PySem.W.Frag) (C : Cn) (H : Hp) (U : AP) (σ : L2.St) (env : Env') : Prop where
  len : σ.length = env.length
  dom : Dom H U
  dis : ∀ a, U a → ¬ C.B a
  domB : ∀ a, C.B a → H a ≠ none
  tabs : LamX.Tabs C.T H
  vals : ∀ (i : Nat) (d : D), env[i]? = some (Sl.val d) → ∃ v, σ[i]? = some (some v) ∧ Rep K H (Zo C.B U) d v
  owns : ∀ (i : Nat) (p : Bool) (d : D), env[i]? = some (Sl.own p d) → ∃ a, σ[i]? = some (some (V.ref a)) ∧ U a ∧ OwnAt K H (Zo C.B U) a d ∧ (p = true → a = C.P)
  scrs : ∀ (i : Nat) (ns : List Int), env[i]? = some (Sl.scr ns) → ∃ a, σ[i]? = some (some (V.ref a)) ∧ ScrL K H (Zo C.B U) a (ns.map V.int)
  inj : ∀ (i j : Nat) (p q : Bool) (d e : D) (a : Addr), env[i]? = some (Sl.own p d) → env[j]? = some (Sl.own q e) → σ[i]? = some (some (V.ref a)) → σ[j]? = some (some (V.ref a)) → i = j
def RepR (K : PySem.W.Frag) (C : Cn) (H : Hp) (U : AP) (σ : L2.St) (env : Env') : R → V → Prop
  | .val d, v => Rep K H (Zo C.B U) d v
  | .fr d, v => ∃ a, v = .ref a ∧ U a ∧ OwnAt K H (Zo C.B U) a d ∧ ∀ (i : Nat) (p : Bool) (e : D), env[i]? = some (Sl.own p e) → σ[i]? ≠ some (some (V.ref a))
  | .var i, v => σ[i]? = some (some v)
/-- what is wanted behind an expression that gives r and leaves env -/
def PR (K : PySem.W.Frag) (C : Cn) (H : Hp) (U : AP) (σ : L2.St) (env : Env') (r : R) (Q : VK) : Prop :=
  ∀ v H' U', Stp H U H' U' → Stt K C H' U' σ env → RepR K C H' U' σ env r v → Q v H'
theorem PR.stp {K : PySem.W.Frag} {C : Cn} {H H1 : Hp} {U U1 : AP} {σ : L2.St} {env : Env'} {r : R} {Q : VK} (q : PR K C H U σ env r Q) (s : Stp H U H1 U1) : PR K C H1 U1 σ env r Q :=
  fun v H' U' s' st' r' => q v H' U' (s.trans s') st' r'
abbrev Ev := Env' → Option (R × Env')
def tE (K : PySem.W.Frag) (C : Cn) (f : Ev) : TE := fun σ H Q => ∃ U env r env', Stt K C H U σ env ∧ f env = some (r, env') ∧ PR K C H U σ env' r Q
def EvE (X : Cx) (C : Cn) (e : Expr) (f : Ev) : Prop := PE X e (tE X.K C f)
theorem PE.weaken {X : Cx} {e : Expr} {t t' : TE} (h : PE X e t) (k : ∀ σ H Q, t' σ H Q → t σ H Q) : PE X e t' := ⟨fun pins s σ H Q I q => h.run pins s σ H Q I (k σ H Q q)⟩
theorem PT.weaken {X : Cx} {e : Expr} {t t' : TT} (h : PT X e t) (k : ∀ σ H Q, t' σ H Q → t σ H Q) : PT X e t' := ⟨fun pins s σ H Q I q => h.run pins s σ H Q I (k σ H Q q)⟩
theorem PW.weaken {X : Cx} {e : Expr} {t t' : TT} (h : PW X e t) (k : ∀ σ H Q, t' σ H Q → t σ H Q) : PW X e t' := ⟨fun w pins s σ H Q I q => h.run w pins s σ H Q I (k σ H Q q)⟩
theorem PA.weaken {X : Cx} {e : List Expr} {t t' : TA} (h : PA X e t) (k : ∀ σ H Q, t' σ H Q → t σ H Q) : PA X e t' := ⟨fun p pins s σ H Q I q => h.run p pins s σ H Q I (k σ H Q q)⟩
theorem PS.weaken {X : Cx} {e : Stmt} {t t' : TS} (h : PS X e t) (k : ∀ D σ H, t' D σ H → t D σ H) : PS X e t' := ⟨fun pins s σ H D I q => h.run pins s σ H D I (k D σ H q)⟩
theorem PSs.weaken {X : Cx} {e : List Stmt} {t t' : TS} (h : PSs X e t) (k : ∀ D σ H, t' D σ H → t D σ H) : PSs X e t' := ⟨fun pins s σ H D I q => h.run pins s σ H D I (k D σ H q)⟩
theorem PI.weaken {X : Cx} {tg e : Expr} {t t' : TI} (h : PI X tg e t) (k : ∀ σ H R, t' σ H R → t σ H R) : PI X tg e t' := ⟨fun pins s σ H R I q => h.run pins s σ H R I (k σ H R q)⟩

def R.fz : R → R
  | .fr d => .val d
  | r => r
def deref (env : Env') : R → Option D
  | .val d => some d
  | .fr d => some d
  | .var i => match env[i]? with
    | some (.val d) => some d
    | some (.own _ d) => some d
    | _ => none
def frz (env : Env') : R → Option (D × Env')
  | .val d => some (d, env)
  | .fr d => some (d, env)
  | .var i => match env[i]? with
    | some (.val d) => some (d, env)
    | some (.own _ d) => some (d, env.set i (.val d))
    | _ => none
section
variable {K : PySem.W.Frag} {C : Cn} {H : Hp} {U : AP} {σ : L2.St} {env : Env'}
theorem OwnAt.mono {Z Z' : AP} (hz : ∀ a, Z' a → Z a) {a : Addr} : ∀ {d : D}, OwnAt K H Z a d → OwnAt K H Z' a d
  | .list ds, h => by
    obtain ⟨vs, e, r⟩ := h
    exact ⟨vs, e, Reps.mono hz _ _ r⟩
/-- an address is owned no more, by nobody -/
theorem Stt.less (S : Stt K C H U σ env) {a : Addr} (h : ∀ (i : Nat) (p : Bool) (e : D), env[i]? = some (Sl.own p e) → σ[i]? ≠ some (some (V.ref a))) : Stt K C H (fun b => U b ∧ b ≠ a) σ env where
  len := S.len
  dom := fun b u => S.dom b u.1
  dis := fun b u => S.dis b u.1
  domB := S.domB
  tabs := S.tabs
  vals := fun i d e => by
    obtain ⟨v, e1, r⟩ := S.vals i d e
    exact ⟨v, e1, Rep.mono (fun b z => by rcases z with z | z; exact .inl z.1; exact .inr z) _ _ r⟩
  owns := fun i p d e => by
    obtain ⟨b, e1, u, o, q⟩ := S.owns i p d e
    refine ⟨b, e1, ⟨u, fun z => h i p d e (by rw [e1, z])⟩, o.mono fun b z => ?_, q⟩
    rcases z with z | z
    · exact .inl z.1
    · exact .inr z
  scrs := fun i ns e => by
    obtain ⟨a, e1, r⟩ := S.scrs i ns e
    exact ⟨a, e1, r.mono (fun b z => by rcases z with z | z; exact .inl z.1; exact .inr z)⟩
  inj := S.inj
theorem less_stp {H : Hp} {U : AP} {a : Addr} : Stp H U H (fun b => U b ∧ b ≠ a) := ⟨fun _ _ h _ _ => h, fun _ u => .inl u.1, fun _ h => h⟩
/-- an owned object, owned no more, may be read for ever -/
theorem own_rep (S : Stt K C H U σ env) {a : Addr} (u : U a) : ∀ {d : D}, OwnAt K H (Zo C.B U) a d → Rep K H (Zo C.B fun b => U b ∧ b ≠ a) d (.ref a)
  | .list ds, h => by
    obtain ⟨vs, e, r⟩ := h
    refine ⟨a, vs, rfl, ⟨e, ?_⟩, Reps.mono (fun b z => ?_) _ _ r⟩
    · rintro (z | z)
      · exact z.2 rfl
      · exact S.dis a u z
    · rcases z with z | z
      · exact .inl z.1
      · exact .inr z
theorem fz_ok {r : R} {v : V} (S : Stt K C H U σ env) (h : RepR K C H U σ env r v) : ∃ U', Stp H U H U' ∧ Stt K C H U' σ env ∧ RepR K C H U' σ env r.fz v := by
  cases r with
  | val d => exact ⟨U, .refl, S, h⟩
  | var i => exact ⟨U, .refl, S, h⟩
  | fr d =>
    obtain ⟨a, rfl, u, o, n⟩ := h
    exact ⟨_, less_stp, S.less n, own_rep S u o⟩
theorem frz_ok {r : R} {v : V} {d : D} {env' : Env'} (S : Stt K C H U σ env) (h : RepR K C H U σ env r v) (e : frz env r = some (d, env')) :
    ∃ U', Stp H U H U' ∧ Stt K C H U' σ env' ∧ Rep K H (Zo C.B U') d v := by
  cases r with
  | val d' =>
    cases e
    exact ⟨U, .refl, S, h⟩
  | fr d' =>
    cases e
    obtain ⟨a, rfl, u, o, n⟩ := h
    exact ⟨_, less_stp, S.less n, own_rep S u o⟩
  | var i =>
    have h' : σ[i]? = some (some v) := h
    simp only [frz] at e
    split at e
    · rename_i d' q
      cases e
      obtain ⟨v', e1, r'⟩ := S.vals i _ q
      rw [h'] at e1; cases e1
      exact ⟨U, .refl, S, r'⟩
    · rename_i p d' q
      cases e
      obtain ⟨a, e1, u, o, hp⟩ := S.owns i p _ q
      rw [h'] at e1; cases e1
      have hi : i < env.length := by
        rcases Nat.lt_or_ge i env.length with z | z
        · exact z
        · rw [List.getElem?_eq_none z] at q; cases q
      refine ⟨fun b => U b ∧ b ≠ a, less_stp, ?_, own_rep S u o⟩
      refine ⟨by simp [S.len], fun b u => S.dom b u.1, fun b u => S.dis b u.1, S.domB, S.tabs, fun j d1 e1 => ?_, fun j p1 d1 e1 => ?_, fun j ns e1 => ?_, fun j k p1 q1 d1 d2 b e1 e2 => ?_⟩
      · by_cases hj : i = j
        · subst hj
          rw [List.getElem?_set_self hi] at e1
          cases e1
          exact ⟨_, h', own_rep S u o⟩
        · rw [List.getElem?_set_ne hj] at e1
          obtain ⟨w, e2, r⟩ := S.vals j d1 e1
          exact ⟨w, e2, Rep.mono (fun b z => by rcases z with z | z; exact .inl z.1; exact .inr z) _ _ r⟩
      · by_cases hj : i = j
        · subst hj
          rw [List.getElem?_set_self hi] at e1
          cases e1
        · rw [List.getElem?_set_ne hj] at e1
          obtain ⟨b, e2, u2, o2, q2⟩ := S.owns j p1 d1 e1
          refine ⟨b, e2, ⟨u2, fun z => hj ?_⟩, o2.mono fun b z => ?_, q2⟩
          · subst z
            exact S.inj _ _ _ _ _ _ _ q e1 h' e2
          · rcases z with z | z
            · exact .inl z.1
            · exact .inr z
      · by_cases hj : i = j
        · subst hj
          rw [List.getElem?_set_self hi] at e1
          cases e1
        · rw [List.getElem?_set_ne hj] at e1
          obtain ⟨b, e2, r⟩ := S.scrs j ns e1
          exact ⟨b, e2, r.mono (fun b z => by rcases z with z | z; exact .inl z.1; exact .inr z)⟩
      · by_cases hj : i = j
        · subst hj
          rw [List.getElem?_set_self hi] at e1
          cases e1
        · rw [List.getElem?_set_ne hj] at e1
          by_cases hk : i = k
          · subst hk
            rw [List.getElem?_set_self hi] at e2
            cases e2
          · rw [List.getElem?_set_ne hk] at e2
            exact S.inj _ _ _ _ _ _ _ e1 e2
    · cases e
theorem own_rdb {a : Addr} {Z : AP} : ∀ {d : D}, OwnAt K H Z a d → Rdb K H Z d (.ref a)
  | .list ds, h => by
    obtain ⟨vs, e, r⟩ := h
    exact ⟨a, vs, rfl, e, r⟩
theorem deref_ok {r : R} {v : V} {d : D} (S : Stt K C H U σ env) (h : RepR K C H U σ env r v) (e : deref env r = some d) : Rdb K H (Zo C.B U) d v := by
  cases r with
  | val d' => cases e; exact Rep.rd h
  | fr d' =>
    cases e
    obtain ⟨a, rfl, u, o, n⟩ := h
    exact own_rdb o
  | var i =>
    have h' : σ[i]? = some (some v) := h
    simp only [deref] at e
    split at e
    · rename_i d' q
      cases e
      obtain ⟨v', e1, r'⟩ := S.vals i _ q
      rw [h'] at e1; cases e1
      exact r'.rd
    · rename_i p d' q
      cases e
      obtain ⟨a, e1, u, o, hp⟩ := S.owns i p _ q
      rw [h'] at e1; cases e1
      exact own_rdb o
    · cases e
/-- a result that is held while another is reckoned -/
theorem held {r : R} {v : V} {H' : Hp} {U' : AP} {env' : Env'} (S : Stt K C H U σ env) (h : RepR K C H U σ env r.fz v) (s : Stp H U H' U') : RepR K C H' U' σ env' r.fz v := by
  cases r with
  | val d => exact Rep.stp S.dom s _ _ h
  | fr d => exact Rep.stp S.dom s _ _ h
  | var i => exact h

/-! ### new objects -/
theorem tabs_new {T : List (Addr × Str)} {p : Addr} {o : HO} (hn : H p = none) (t : LamX.Tabs T H) : LamX.Tabs T (upd H p o) :=
  t.ext fun b u e => by rw [upd_ne (ne_of_none e hn)]; exact e
theorem stp_new {p : Addr} {o : HO} {U' : AP} (hn : H p = none) (hu : ∀ b, U' b → U b ∨ b = p) : Stp H U (upd H p o) U' :=
  ⟨fun b u e _ _ => by rw [upd_ne (ne_of_none e hn)]; exact e, fun b u => by
    rcases hu b u with z | z
    · exact .inl z
    · exact .inr (by rw [z]; exact hn), fun b h => by
    by_cases z : b = p
    · rw [z, upd_same]; simp
    · rw [upd_ne z]; exact h⟩
theorem Stt.new (S : Stt K C H U σ env) {p : Addr} {o : HO} {U' : AP} (hn : H p = none) (h0 : ∀ b, U b → U' b) (hu : ∀ b, U' b → U b ∨ b = p) (ho : U' p → ∃ vs, o = .lst vs) : Stt K C (upd H p o) U' σ env := by
  have s : Stp H U (upd H p o) U' := stp_new hn hu
  have nB : ¬ C.B p := fun z => S.domB p z hn
  refine ⟨S.len, fun a u => ?_, fun a u => ?_, fun a b => s.there a (S.domB a b), tabs_new hn S.tabs, fun i d e => ?_, fun i q d e => ?_, fun i ns e => ?_, S.inj⟩
  · by_cases z : a = p
    · subst z
      obtain ⟨vs, rfl⟩ := ho u
      exact ⟨vs, upd_same⟩
    · rcases hu a u with u | u
      · obtain ⟨vs, e⟩ := S.dom a u
        exact ⟨vs, by rw [upd_ne z]; exact e⟩
      · exact absurd u z
  · rcases hu a u with u | u
    · exact S.dis a u
    · rw [u]; exact nB
  · obtain ⟨v, e1, r⟩ := S.vals i d e
    exact ⟨v, e1, Rep.stp S.dom s _ _ r⟩
  · obtain ⟨a, e1, u, o', hp⟩ := S.owns i q d e
    refine ⟨a, e1, h0 a u, ?_, hp⟩
    cases d with
    | list ds =>
      obtain ⟨vs, e2, r⟩ := o'
      exact ⟨vs, by rw [upd_ne (ne_of_none e2 hn)]; exact e2, Reps.stp S.dom s _ _ r⟩
    | _ => exact o'.elim
  · obtain ⟨a, e1, r⟩ := S.scrs i ns e
    exact ⟨a, e1, scrL_stp S.dom s r⟩
theorem pr_val {d : D} {v : V} {Q : VK} (S : Stt K C H U σ env) (r : Rep K H (Zo C.B U) d v) (q : PR K C H U σ env (.val d) Q) : Q v H := q v H U .refl S r
/-- a new list, owned by the result -/
theorem pr_list {ds : List D} {vs : List V} {Q : VK} (S : Stt K C H U σ env) (r : Reps K H (Zo C.B U) ds vs) (q : PR K C H U σ env (.fr (.list ds)) Q) : ∀ p, H p = none → Q (.ref p) (upd H p (.lst vs)) := fun p hn => by
  refine q (.ref p) _ (fun b => U b ∨ b = p) (stp_new hn fun b h => h) (S.new hn (fun b u => .inl u) (fun b h => h) fun _ => ⟨vs, rfl⟩) ⟨p, rfl, .inr rfl, ⟨vs, upd_same, ?_⟩, fun i pp e h1 h2 => ?_⟩
  · exact Reps.stp S.dom (stp_new hn fun b h => h) _ _ r
  · obtain ⟨a, e1, u, _⟩ := S.owns i pp e h1
    rw [e1] at h2
    cases h2
    obtain ⟨ws, e3⟩ := S.dom _ u
    rw [hn] at e3; cases e3
theorem pr_tuple {ds : List D} {vs : List V} {Q : VK} (S : Stt K C H U σ env) (r : Reps K H (Zo C.B U) ds vs) (q : PR K C H U σ env (.val (.tuple ds)) Q) : ∀ p, H p = none → Q (.ref p) (upd H p (.tup vs)) := fun p hn => by
  have s : Stp H U (upd H p (.tup vs)) U := stp_new hn fun b h => .inl h
  refine q (.ref p) _ U s (S.new hn (fun b u => u) (fun b h => .inl h) fun u => ?_) ⟨p, vs, rfl, .inl (.inl upd_same), Reps.stp S.dom s _ _ r⟩
  obtain ⟨ws, e⟩ := S.dom _ u
  rw [hn] at e; cases e
end
end Sm
set_option Elab.async false
set_option linter.all false
set_option maxRecDepth 100000
set_option maxHeartbeats 1000000
/-! The layer: expressions. -/
namespace Sm
open PySem PySem.Spec PyProof.Rows L2
section
variable {X : Cx} {C : Cn} {pos : Pos}

/-! ### names and constants -/
def eC (d : D) : Ev := fun env => some (.val d, env)
theorem ev_int {i j pos} : EvE X C (.Constant (.int i) j pos) (eC (.int i)) := PE.weaken pe_int fun σ H Q ⟨U, env, r, env', st, e, q⟩ => by
  cases e
  exact pr_val (d := .int i) st rfl q
theorem ev_bl {b j pos} : EvE X C (.Constant (.bool b) j pos) (eC (.bool b)) := PE.weaken pe_bl fun σ H Q ⟨U, env, r, env', st, e, q⟩ => by
  cases e
  exact pr_val (d := .bool b) st rfl q
theorem ev_non {j pos} : EvE X C (.Constant .none j pos) (eC .none) := PE.weaken pe_non fun σ H Q ⟨U, env, r, env', st, e, q⟩ => by
  cases e
  exact pr_val (d := .none) st rfl q
theorem ev_str {x j pos} : EvE X C (.Constant (.str x) j pos) (eC (.str x)) := PE.weaken pe_str fun σ H Q ⟨U, env, r, env', st, e, q⟩ => by
  cases e
  exact pr_val (d := .str x) st rfl q
/-- a module's constant that is no object -/
theorem ev_glob {x : Str} {v : V} {u : Value} {d : D} {pos : Pos} (hg : Gl X x) (hm : X.mg x = some u) (r : RelV v u) (hd : ∀ K H Z, Rep K H Z d v) (hdb : (x == ("__debug__" : Str)) = false := by decide) : EvE X C (.Name x pos) (eC d) :=
  PE.weaken (pe_glob hg hm r hdb) fun σ H Q ⟨U, env, r, env', st, e, q⟩ => by
    cases e
    exact pr_val st (hd _ _ _) q
def eVar (i : Nat) : Ev := fun env => match env[i]? with
  | some (.val d) => some (.val d, env)
  | some (.own _ _) => some (.var i, env)
  | some (.scr _) => some (.var i, env)
  | _ => none
theorem ev_var {i : Nat} {x : Str} (h : PE X (.Name x pos) (tVar i)) : EvE X C (.Name x pos) (eVar i) := PE.weaken h fun σ H Q ⟨U, env, r, env', st, e, q⟩ => by
  simp only [eVar] at e
  split at e
  · rename_i d hd
    cases e
    obtain ⟨v, e1, r⟩ := st.vals i d hd
    exact ⟨v, e1, pr_val st r q⟩
  · rename_i p d hd
    cases e
    obtain ⟨a, e1, u, o, _⟩ := st.owns i _ _ hd
    exact ⟨_, e1, q _ H U .refl st e1⟩
  · rename_i ns hd
    cases e
    obtain ⟨a, e1, _⟩ := st.scrs i _ hd
    exact ⟨_, e1, q _ H U .refl st e1⟩
  · cases e

/-! ### two-place operations -/
def eOp (p : D → D → Option R) (f g : Ev) : Ev := fun env =>
  (f env).bind fun a => (g a.2).bind fun b => (deref b.2 a.1.fz).bind fun x => (deref b.2 b.1).bind fun y => (p x y).map fun r => (r, b.2)
def OpS (K : PySem.W.Frag) (C : Cn) (rr : R2) (p : D → D → Option R) : Prop :=
  ∀ (H : Hp) (U : AP) (σ : L2.St) (env : Env') (dx dy : D) (vx vy : V) (r : R) (Q : VK), Stt K C H U σ env → Rdb K H (Zo C.B U) dx vx → Rdb K H (Zo C.B U) dy vy → p dx dy = some r → PR K C H U σ env r Q → rr vx vy H Q
theorem two_ok {rr : R2} {p : D → D → Option R} (hs : OpS X.K C rr p) {f g : Ev} : ∀ σ H Q, tE X.K C (eOp p f g) σ H Q → tOp rr (tE X.K C f) (tE X.K C g) σ H Q := fun σ H Q ⟨U, env, r, env', st, e, q⟩ => by
  simp only [eOp, Option.bind_eq_some_iff, Option.map_eq_some_iff] at e
  obtain ⟨⟨ra, e1⟩, hf, ⟨rb, e2⟩, hg, x, hx, y, hy, r', hp, e⟩ := e
  obtain ⟨rfl, rfl⟩ := Prod.mk.inj e
  refine ⟨U, env, ra, e1, st, hf, fun v H1 U1 s1 st1 r1 => ?_⟩
  obtain ⟨U1', s1', st1', r1'⟩ := fz_ok st1 r1
  refine ⟨U1', e1, rb, e2, st1', hg, fun w H2 U2 s2 st2 r2 => ?_⟩
  have ha := deref_ok st2 (by
    have := held (env' := e2) st1' r1' s2
    exact this) hx
  exact hs H2 U2 σ e2 x y v w r' Q st2 ha (deref_ok st2 r2 hy) hp (q.stp ((s1.trans s1').trans s2))
theorem ev_op {op : Operator} {rr : R2} {p : D → D → Option R} (ho : OpR X (binaryOp op) rr) (hs : OpS X.K C rr p) {a b : Expr} {f g : Ev} (ha : EvE X C a f) (hb : EvE X C b g) : EvE X C (.BinOp a op b pos) (eOp p f g) :=
  PE.weaken (pe_op ho ha hb) (two_ok hs)
theorem ev_cmp {op : CmpOp} {rr : R2} {p : D → D → Option R} (ho : OpR X (compareOp op) rr) (hs : OpS X.K C rr p) {a b : Expr} {f g : Ev} (ha : EvE X C a f) (hb : EvE X C b g) (hm : behindInMarks op b = false := by first | exact nomark _ | rfl) : EvE X C (.Compare a [op] [b] pos) (eOp p f g) :=
  PE.weaken (pe_cmpR ho ha hb hm) (two_ok hs)
theorem ev_ix {rr : R2} {p : D → D → Option R} (ho : IxR X rr) (hs : OpS X.K C rr p) {a b : Expr} {f g : Ev} (ha : EvE X C a f) (hb : EvE X C b g) (hp : PlainIx b := by exact fun _ _ => rfl) : EvE X C (.Subscript a b pos) (eOp p f g) :=
  PE.weaken (pe_ix ho ha hb hp) (two_ok hs)

/-! ### one-place operations -/
def eUn (p : D → Option R) (f : Ev) : Ev := fun env => (f env).bind fun a => (deref a.2 a.1).bind fun x => (p x).map fun r => (r, a.2)
def UnS (K : PySem.W.Frag) (C : Cn) (rr : V → Hp → VK → Prop) (p : D → Option R) : Prop :=
  ∀ (H : Hp) (U : AP) (σ : L2.St) (env : Env') (dx : D) (vx : V) (r : R) (Q : VK), Stt K C H U σ env → Rdb K H (Zo C.B U) dx vx → p dx = some r → PR K C H U σ env r Q → rr vx H Q
theorem one_ok {rr : V → Hp → VK → Prop} {p : D → Option R} (hs : UnS X.K C rr p) {f : Ev} : ∀ σ H Q, tE X.K C (eUn p f) σ H Q → tE X.K C f σ H fun x H1 => rr x H1 Q := fun σ H Q ⟨U, env, r, env', st, e, q⟩ => by
  simp only [eUn, Option.bind_eq_some_iff, Option.map_eq_some_iff] at e
  obtain ⟨⟨ra, e1⟩, hf, x, hx, r', hp, e⟩ := e
  obtain ⟨rfl, rfl⟩ := Prod.mk.inj e
  refine ⟨U, env, ra, e1, st, hf, fun v H1 U1 s1 st1 r1 => ?_⟩
  exact hs H1 U1 σ e1 x v r' Q st1 (deref_ok st1 r1 hx) hp (q.stp s1)
theorem ev_un {op : UnaryOp} {rr : V → Hp → VK → Prop} {p : D → Option R} (ho : UnR X (unaryOp op) rr) (hs : UnS X.K C rr p) {a : Expr} {f : Ev} (ha : EvE X C a f) : EvE X C (.UnaryOp op a pos) (eUn p f) :=
  PE.weaken (pe_un ho ha) (one_ok hs)

/-! ### arguments -/
abbrev EvA := Env' → Option (List R × Env')
def RepAs (K : PySem.W.Frag) (C : Cn) (H : Hp) (U : AP) (σ : L2.St) (env : Env') : List R → List V → Prop
  | [], vs => vs = []
  | r :: rs, vs => ∃ v t, vs = v :: t ∧ RepR K C H U σ env r.fz v ∧ RepAs K C H U σ env rs t
theorem RepAs.held {K : PySem.W.Frag} {H H' : Hp} {U U' : AP} {σ : L2.St} {env env' : Env'} (S : Stt K C H U σ env) (s : Stp H U H' U') : ∀ {rs : List R} {vs : List V}, RepAs K C H U σ env rs vs → RepAs K C H' U' σ env' rs vs
  | [], _, h => h
  | r :: rs, _, h => by
    obtain ⟨v, t, rfl, h1, h2⟩ := h
    exact ⟨v, t, rfl, Sm.held S h1 s, RepAs.held S s h2⟩
def tA (K : PySem.W.Frag) (C : Cn) (f : EvA) : TA := fun σ H Q => ∃ U env rs env', Stt K C H U σ env ∧ f env = some (rs, env') ∧ ∀ vs H' U', Stp H U H' U' → Stt K C H' U' σ env' → RepAs K C H' U' σ env' rs vs → Q vs H'
def EvAs (X : Cx) (C : Cn) (es : List Expr) (f : EvA) : Prop := PA X es (tA X.K C f)
def aNil : EvA := fun env => some ([], env)
def aCons (f : Ev) (g : EvA) : EvA := fun env => (f env).bind fun a => (g a.2).map fun b => (a.1.fz :: b.1, b.2)
theorem fz_fz (r : R) : r.fz.fz = r.fz := by cases r <;> rfl
theorem ea_nil : EvAs X C [] aNil := PA.weaken pa_nil fun σ H Q ⟨U, env, rs, env', st, e, q⟩ => by
  cases e
  exact q _ H U .refl st rfl
theorem ea_cons {e : Expr} {es : List Expr} {f : Ev} {g : EvA} (h1 : EvE X C e f) (h2 : EvAs X C es g) (hs : starEach (e :: es) X.env = (false, eval e X.env) :: starEach es X.env := by rfl) : EvAs X C (e :: es) (aCons f g) :=
  PA.weaken (pa_cons h1 h2 hs) fun σ H Q ⟨U, env, rs, env', st, e, q⟩ => by
    simp only [aCons, Option.bind_eq_some_iff, Option.map_eq_some_iff] at e
    obtain ⟨⟨ra, e1⟩, hf, ⟨rb, e2⟩, hg, e⟩ := e
    obtain ⟨rfl, rfl⟩ := Prod.mk.inj e
    refine ⟨U, env, ra, e1, st, hf, fun v H1 U1 s1 st1 r1 => ?_⟩
    obtain ⟨U1', s1', st1', r1'⟩ := fz_ok st1 r1
    refine ⟨U1', e1, rb, e2, st1', hg, fun vs H2 U2 s2 st2 r2 => ?_⟩
    refine q (v :: vs) H2 U2 ((s1.trans s1').trans s2) st2 ⟨v, vs, rfl, ?_, r2⟩
    rw [fz_fz]
    exact Sm.held st1' r1' s2
/-- all arguments frozen -/
def frzL (env : Env') : List R → Option (List D × Env')
  | [] => some ([], env)
  | r :: rs => (frz env r).bind fun a => (frzL a.2 rs).map fun b => (a.1 :: b.1, b.2)
theorem frz_fz (env : Env') (r : R) : frz env r.fz = frz env r := by cases r <;> rfl
theorem frzL_ok {K : PySem.W.Frag} {σ : L2.St} {H : Hp} : ∀ {rs : List R} {vs : List V} {U : AP} {env : Env'} {ds : List D} {env' : Env'}, Stt K C H U σ env → RepAs K C H U σ env rs vs → frzL env rs = some (ds, env') →
    ∃ U', Stp H U H U' ∧ Stt K C H U' σ env' ∧ Reps K H (Zo C.B U') ds vs
  | [], _, U, env, ds, env', S, h, e => by
    cases e
    exact ⟨U, .refl, S, h⟩
  | r :: rs, _, U, env, ds, env', S, h, e => by
    obtain ⟨v, t, rfl, h1, h2⟩ := h
    simp only [frzL, Option.bind_eq_some_iff, Option.map_eq_some_iff] at e
    obtain ⟨⟨d, e1⟩, hd, ⟨ds', e2⟩, hg, e⟩ := e
    obtain ⟨rfl, rfl⟩ := Prod.mk.inj e
    obtain ⟨U1, s1, S1, r1⟩ := frz_ok S h1 (by rw [frz_fz]; exact hd)
    obtain ⟨U2, s2, S2, r2⟩ := frzL_ok S1 (RepAs.held (env' := e1) S s1 h2) hg
    exact ⟨U2, s1.trans s2, S2, ⟨v, t, rfl, Rep.stp S1.dom s2 _ _ r1, r2⟩⟩
theorem m_le : (1000000 : Nat) ≤ sizeLine := by rw [sizeLine_eq]; decide
/-- (..) and [..] -/
def eTup (a : EvA) : Ev := fun env => (a env).bind fun b => (frzL b.2 b.1).bind fun c => if c.1.length ≤ 1000000 then some (.val (.tuple c.1), c.2) else none
def eLst (a : EvA) : Ev := fun env => (a env).bind fun b => (frzL b.2 b.1).bind fun c => if c.1.length ≤ 1000000 then some (.fr (.list c.1), c.2) else none
theorem ev_tup {es : List Expr} {f : EvA} {x1 : Nat} (h : EvAs X C es f) : EvE X C (.Tuple es x1 pos) (eTup f) := PE.weaken (pe_tup h) fun σ H Q ⟨U, env, r, env', st, e, q⟩ => by
  simp only [eTup, Option.bind_eq_some_iff] at e
  obtain ⟨⟨rs, e1⟩, hf, ⟨ds, e2⟩, hg, e⟩ := e
  split at e
  · rename_i hl
    obtain ⟨rfl, rfl⟩ := Prod.mk.inj (Option.some.inj e)
    refine ⟨U, env, rs, e1, st, hf, fun vs H1 U1 s1 st1 r1 => ?_⟩
    obtain ⟨U2, s2, st2, r2⟩ := frzL_ok st1 r1 hg
    exact ⟨Nat.le_trans (by rw [r2.length]; exact hl) m_le, pr_tuple st2 r2 (q.stp (s1.trans s2))⟩
  · cases e
theorem ev_lst {es : List Expr} {f : EvA} (h : EvAs X C es f) : EvE X C (.List es pos) (eLst f) := PE.weaken (pe_lst h) fun σ H Q ⟨U, env, r, env', st, e, q⟩ => by
  simp only [eLst, Option.bind_eq_some_iff] at e
  obtain ⟨⟨rs, e1⟩, hf, ⟨ds, e2⟩, hg, e⟩ := e
  split at e
  · rename_i hl
    obtain ⟨rfl, rfl⟩ := Prod.mk.inj (Option.some.inj e)
    refine ⟨U, env, rs, e1, st, hf, fun vs H1 U1 s1 st1 r1 => ?_⟩
    obtain ⟨U2, s2, st2, r2⟩ := frzL_ok st1 r1 hg
    exact ⟨Nat.le_trans (by rw [r2.length]; exact hl) m_le, pr_list st2 r2 (q.stp (s1.trans s2))⟩
  · cases e
/-- *e among the arguments -/
def aStar (f : Ev) (g : EvA) : EvA := fun env => (f env).bind fun a => (frz a.2 a.1).bind fun c => match c.1 with
  | .list ds => (g c.2).map fun b => (ds.map R.val ++ b.1, b.2)
  | .tuple ds => (g c.2).map fun b => (ds.map R.val ++ b.1, b.2)
  | _ => none
theorem RepAs.app {K : PySem.W.Frag} {σ : L2.St} {H : Hp} {U : AP} {env : Env'} : ∀ {ds : List D} {vs ws : List V} {rs : List R}, Reps K H (Zo C.B U) ds vs → RepAs K C H U σ env rs ws → RepAs K C H U σ env (ds.map R.val ++ rs) (vs ++ ws)
  | [], _, _, _, h, k => by cases h; exact k
  | d :: ds, _, _, _, h, k => by
    obtain ⟨v, t, rfl, h1, h2⟩ := h
    exact ⟨v, _, rfl, h1, RepAs.app h2 k⟩
theorem ea_star {e : Expr} {p : Pos} {es : List Expr} {f : Ev} {g : EvA} (h1 : EvE X C e f) (h2 : EvAs X C es g) (hs : starEach (.Starred e p :: es) X.env = (true, eval e X.env) :: starEach es X.env := by rfl) : EvAs X C (.Starred e p :: es) (aStar f g) :=
  PA.weaken (StX.pa_star h1 h2 hs) fun σ H Q ⟨U, env, rs, env', st, e, q⟩ => by
    simp only [aStar, Option.bind_eq_some_iff] at e
    obtain ⟨⟨ra, e1⟩, hf, ⟨d, e2⟩, hd, e⟩ := e
    refine ⟨U, env, ra, e1, st, hf, fun v H1 U1 s1 st1 r1 => ?_⟩
    obtain ⟨U1', s1', st1', r1'⟩ := frz_ok st1 r1 hd
    cases d with
    | list ds =>
      simp only [Option.map_eq_some_iff] at e
      obtain ⟨⟨rb, e3⟩, hg, e⟩ := e
      obtain ⟨rfl, rfl⟩ := Prod.mk.inj e
      obtain ⟨a, vs, rfl, fz, rr⟩ := r1'
      refine ⟨a, vs, rfl, .inr fz.sq, U1', e2, rb, e3, st1', hg, fun ws H2 U2 s2 st2 r2 => ?_⟩
      exact q _ H2 U2 ((s1.trans s1').trans s2) st2 (RepAs.app (Reps.stp st1'.dom s2 _ _ rr) r2)
    | tuple ds =>
      simp only [Option.map_eq_some_iff] at e
      obtain ⟨⟨rb, e3⟩, hg, e⟩ := e
      obtain ⟨rfl, rfl⟩ := Prod.mk.inj e
      obtain ⟨a, vs, rfl, fz, rr⟩ := r1'
      refine ⟨a, vs, rfl, .inl fz, U1', e2, rb, e3, st1', hg, fun ws H2 U2 s2 st2 r2 => ?_⟩
      exact q _ H2 U2 ((s1.trans s1').trans s2) st2 (RepAs.app (Reps.stp st1'.dom s2 _ _ rr) r2)
    | _ => cases e

/-! ### calls of builtins by values -/
def Rdbs (K : PySem.W.Frag) (H : Hp) (Z : AP) : List D → List V → Prop
  | [], vs => vs = []
  | d :: ds, vs => ∃ v r, vs = v :: r ∧ Rdb K H Z d v ∧ Rdbs K H Z ds r
def derefL (env : Env') : List R → Option (List D)
  | [] => some []
  | r :: rs => (deref env r).bind fun a => (derefL env rs).map fun b => a :: b
theorem deref_fz (env : Env') (r : R) : deref env r.fz = deref env r := by cases r <;> rfl
theorem derefL_ok {K : PySem.W.Frag} {σ : L2.St} {H : Hp} {U : AP} {env : Env'} (S : Stt K C H U σ env) : ∀ {rs : List R} {vs : List V} {ds : List D}, RepAs K C H U σ env rs vs → derefL env rs = some ds → Rdbs K H (Zo C.B U) ds vs
  | [], _, _, h, e => by cases e; exact h
  | r :: rs, _, ds, h, e => by
    obtain ⟨v, t, rfl, h1, h2⟩ := h
    simp only [derefL, Option.bind_eq_some_iff, Option.map_eq_some_iff] at e
    obtain ⟨d, hd, ds', hg, rfl⟩ := e
    exact ⟨v, t, rfl, deref_ok S h1 (by rw [deref_fz]; exact hd), derefL_ok S h2 hg⟩
def eCb (p : List D → Option R) (a : EvA) : Ev := fun env => (a env).bind fun b => (derefL b.2 b.1).bind fun ds => (p ds).map fun r => (r, b.2)
def CaS (K : PySem.W.Frag) (C : Cn) (rr : List V → Hp → VK → Prop) (p : List D → Option R) : Prop :=
  ∀ (H : Hp) (U : AP) (σ : L2.St) (env : Env') (ds : List D) (vs : List V) (r : R) (Q : VK), Stt K C H U σ env → Rdbs K H (Zo C.B U) ds vs → p ds = some r → PR K C H U σ env r Q → rr vs H Q
theorem cb_ok {rr : List V → Hp → VK → Prop} {p : List D → Option R} (hs : CaS X.K C rr p) {f : EvA} : ∀ σ H Q, tE X.K C (eCb p f) σ H Q → tCB rr (tA X.K C f) σ H Q := fun σ H Q ⟨U, env, r, env', st, e, q⟩ => by
  simp only [eCb, Option.bind_eq_some_iff, Option.map_eq_some_iff] at e
  obtain ⟨⟨rs, e1⟩, hf, ds, hd, r', hp, e⟩ := e
  obtain ⟨rfl, rfl⟩ := Prod.mk.inj e
  refine ⟨U, env, rs, e1, st, hf, fun vs H1 U1 s1 st1 r1 => ?_⟩
  exact hs H1 U1 σ e1 ds vs r' Q st1 (derefL_ok st1 r1 hd) hp (q.stp s1)
theorem ev_cb {id : String} {x : Str} {rr : List V → Hp → VK → Prop} {p : List D → Option R} (hc : CallR X (.builtin id) rr) (hs : CaS X.K C rr p) (hg : Gl X x) (hm : X.mg x = none) (hv : bootBuiltins x = some (.builtin id)) {e : Expr} {es : List Expr} {f : EvA} {p1 : Pos} (ha : EvAs X C (e :: es) f)
    (hn : x ≠ "__name__" := by decide) (hdb : (x == ("__debug__" : Str)) = false := by decide) (he : starEach (e :: es) X.env = (false, eval e X.env) :: starEach es X.env := by rfl) (hpl : (backTo pos (starEach es X.env)).any (·.1) = false := by rfl) : EvE X C (.Call (.Name x p1) (e :: es) [] pos) (eCb p f) :=
  PE.weaken (pe_callB hc hg hm hv ha hn hdb he hpl) (cb_ok hs)
theorem ev_ct {T : String} {x : Str} {rr : List V → Hp → VK → Prop} {p : List D → Option R} (hc : CallR X (.type T) rr) (hs : CaS X.K C rr p) (hg : Gl X x) (hm : X.mg x = none) (hv : bootBuiltins x = some (.type T)) {e : Expr} {es : List Expr} {f : EvA} {p1 : Pos} (ha : EvAs X C (e :: es) f)
    (hn : x ≠ "__name__" := by decide) (hdb : (x == ("__debug__" : Str)) = false := by decide) (he : starEach (e :: es) X.env = (false, eval e X.env) :: starEach es X.env := by rfl) (hpl : (backTo pos (starEach es X.env)).any (·.1) = false := by rfl) : EvE X C (.Call (.Name x p1) (e :: es) [] pos) (eCb p f) :=
  PE.weaken (pe_callTy hc hg hm hv ha hn hdb he hpl) (cb_ok hs)
end
end Sm
set_option Elab.async false
set_option linter.all false
set_option maxRecDepth 100000
set_option maxHeartbeats 1000000
/-! The layer: what operators and builtins do with data. -/
namespace Sm
open PySem PySem.Spec PyProof.Rows L2

/-- what a body's context gives -/
structure Ax (X : Cx) : Prop where
  calm : X.calm = true
  un : X.A.units + 64 < cLine
  py : ∀ (s : Shared), X.base.NoLimit → (∀ b o, X.base.get? b = some o → s.heap.get? b = some o) → X.A.frames = some X.stack → PylongRoom (model X.prog X.w) X.A s

section
variable {X : Cx} {C : Cn} {K : PySem.W.Frag}
/-! ### arithmetic -/
def rAddA (K : PySem.W.Frag) : R2 := fun x y H Q => rI0 (fun i j => .int (i + j)) x y H Q ∨ ((∃ i j, x = .str i ∧ y = .str j ∧ i.length + j.length ≤ sizeLine ∧ Q (.str (i ++ j)) H) ∨ (rCat x y H Q ∨ rCatA K x y H Q))
theorem op_addA : OpR X (binaryOp .Add) (rAddA X.K) := op_add.or (op_add_str.or (op_cat.or op_catA))
def pAdd : D → D → Option R
  | .int i, .int j => some (.val (.int (i + j)))
  | .str x, .str y => if x.length + y.length ≤ 1000000 then some (.val (.str (x ++ y))) else none
  | .list xs, .list ys => if xs.length + ys.length ≤ 1000000 then some (.fr (.list (xs ++ ys))) else none
  | .tuple xs, .tuple ys => if xs.length + ys.length ≤ 1000000 then some (.val (.tuple (xs ++ ys))) else none
  | _, _ => none
theorem os_add : OpS K C (rAddA K) pAdd := by
  intro H U σ env dx dy vx vy r Q S hx hy e q
  unfold pAdd at e
  split at e
  · cases e; cases hx; cases hy
    exact .inl ⟨_, _, rfl, rfl, pr_val (d := .int _) S rfl q⟩
  · split at e
    · rename_i hl
      cases e; cases hx; cases hy
      exact .inr (.inl ⟨_, _, rfl, rfl, Nat.le_trans hl m_le, pr_val (d := .str _) S rfl q⟩)
    · cases e
  · split at e
    · rename_i hl
      cases e
      obtain ⟨a, vs, rfl, h1, r1⟩ := hx
      obtain ⟨b, ws, rfl, h2, r2⟩ := hy
      exact .inr (.inr (.inl ⟨a, b, vs, ws, rfl, rfl, h1, h2, Nat.le_trans (by rw [r1.length, r2.length]; exact hl) m_le, pr_list S (r1.append r2) q⟩))
    · cases e
  · split at e
    · rename_i hl
      cases e
      obtain ⟨a, vs, rfl, h1, r1⟩ := hx
      obtain ⟨b, ws, rfl, h2, r2⟩ := hy
      have r3 := r1.append r2
      refine .inr (.inr (.inr ⟨a, b, vs, ws, rfl, rfl, h1, h2, Nat.le_trans (by rw [r1.length, r2.length]; exact hl) m_le, fun z => ?_, fun _ z => ?_, fun _ _ => pr_tuple S r3 q⟩))
      · subst z
        exact pr_val (d := .tuple _) S ⟨b, ws, rfl, h2, r3⟩ q
      · subst z
        rw [List.append_nil] at r3
        exact pr_val (d := .tuple _) S ⟨a, vs, rfl, h1, r3⟩ q
    · cases e
  · cases e
def pSub : D → D → Option R
  | .int i, .int j => some (.val (.int (i - j)))
  | _, _ => none
theorem os_sub : OpS K C (rI0 fun i j => .int (i - j)) pSub := by
  intro H U σ env dx dy vx vy r Q S hx hy e q
  unfold pSub at e
  split at e
  · cases e; cases hx; cases hy
    exact ⟨_, _, rfl, rfl, pr_val (d := .int _) S rfl q⟩
  · cases e
/-- products of less than 2^27 bits -/
def CMulG (i j : Int) : Prop := i.natAbs.log2 + j.natAbs.log2 < 134000000
instance (i j : Int) : Decidable (CMulG i j) := by unfold CMulG; infer_instance
theorem CMulG.ok {i j : Int} (h : CMulG i j) : IntMulOk i j := by
  have b : ∀ x : Int, Builtin.Int.intBits x ≤ x.natAbs.log2 + 1 := fun x => by
    unfold Builtin.Int.intBits
    split <;> omega
  have h1 := b i
  have h2 := b j
  have h3 : i.natAbs.log2 + j.natAbs.log2 < 134000000 := h
  have e : bitsLine = 134217728 := by decide
  unfold IntMulOk
  intro z
  rw [Bool.and_eq_true] at z
  have z2 := z.2
  unfold Builtin.Int.intTooBig at z2
  have z3 := of_decide_eq_true z2
  rw [e] at z3
  omega
theorem op_mulG : OpR X (binaryOp .Mult) (rI CMulG fun i j => .int (i * j)) := opI fun _ _ _ _ _ _ _ hc q => mul_int q hc.ok
def rMulA : R2 := fun x y H Q => rI CMulG (fun i j => .int (i * j)) x y H Q ∨ rRep x y H Q
theorem op_mulA : OpR X (binaryOp .Mult) rMulA := op_mulG.or op_rep
def pMul : D → D → Option R
  | .int i, .int j => if CMulG i j then some (.val (.int (i * j))) else none
  | .list xs, .int k => if k < 1000000 ∧ -1000000 < k ∧ xs.length * k.toNat ≤ 1000000 then some (.fr (.list (List.replicate k.toNat xs).flatten)) else none
  | _, _ => none
theorem os_mul : OpS K C rMulA pMul := by
  intro H U σ env dx dy vx vy r Q S hx hy e q
  unfold pMul at e
  split at e
  · split at e
    · rename_i hc
      cases e; cases hx; cases hy
      exact .inl ⟨_, _, rfl, rfl, hc, pr_val (d := .int _) S rfl q⟩
    · cases e
  · split at e
    · rename_i hc
      cases e; cases hy
      obtain ⟨a, vs, rfl, h1, r1⟩ := hx
      exact .inr ⟨a, _, vs, rfl, rfl, h1, by omega, by omega, Nat.le_trans (by rw [r1.length]; exact hc.2.2) m_le, pr_list S (r1.repl _) q⟩
    · cases e
  · cases e
theorem op_fdivP (ax : Ax X) : OpR X (binaryOp .FloorDiv) (rI (fun _ j => 0 < j) fun i j => .int (i / j)) := by
  intro pins s σ H x y v u Q I rx ry h
  obtain ⟨i, j, rfl, rfl, hj, q⟩ := h
  obtain ⟨t, rfl⟩ := rx
  obtain ⟨t', rfl⟩ := ry
  have hj' : (0 : Int) < j := hj
  refine floordiv_int (by omega) ?_ (.inr (ax.py s I.ok.mod.nolimit I.bk I.ok.frames))
  rw [Int.fdiv_eq_ediv_of_nonneg i (by omega)]
  exact ⟨.int _, H, I.tok _, ⟨_, rfl⟩, q⟩
def pFdiv : D → D → Option R
  | .int i, .int j => if 0 < j then some (.val (.int (i / j))) else none
  | _, _ => none
theorem os_fdiv : OpS K C (rI (fun _ j => 0 < j) fun i j => .int (i / j)) pFdiv := by
  intro H U σ env dx dy vx vy r Q S hx hy e q
  unfold pFdiv at e
  split at e
  · split at e
    · rename_i hc
      cases e; cases hx; cases hy
      exact ⟨_, _, rfl, rfl, hc, pr_val (d := .int _) S rfl q⟩
    · cases e
  · cases e
def pMod : D → D → Option R
  | .int i, .int j => if 0 < j then some (.val (.int (i % j))) else none
  | _, _ => none
theorem os_mod : OpS K C (rI (fun _ j => 0 < j) fun i j => .int (i % j)) pMod := by
  intro H U σ env dx dy vx vy r Q S hx hy e q
  unfold pMod at e
  split at e
  · split at e
    · rename_i hc
      cases e; cases hx; cases hy
      exact ⟨_, _, rfl, rfl, hc, pr_val (d := .int _) S rfl q⟩
    · cases e
  · cases e
def pPow : D → D → Option R
  | .int i, .int j => if 0 ≤ j ∧ j ≤ 1000000 ∧ i.natAbs < 1000000 then some (.val (.int (i ^ j.toNat))) else none
  | _, _ => none
theorem os_pow : OpS K C (rI CPow fun i j => .int (i ^ j.toNat)) pPow := by
  intro H U σ env dx dy vx vy r Q S hx hy e q
  unfold pPow at e
  split at e
  · split at e
    · rename_i hc
      cases e; cases hx; cases hy
      exact ⟨_, _, rfl, rfl, ⟨hc.1, hc.2.1, by omega⟩, pr_val (d := .int _) S rfl q⟩
    · cases e
  · cases e
def pNeg : D → Option R
  | .int i => some (.val (.int (-i)))
  | _ => none
theorem us_neg : UnS K C (rU fun i => .int (-i)) pNeg := by
  intro H U σ env dx vx r Q S hx e q
  unfold pNeg at e
  split at e
  · cases e; cases hx
    exact ⟨_, rfl, pr_val (d := .int _) S rfl q⟩
  · cases e

/-! ### comparisons -/
def pEq (x y : D) : Option R := if SeqAt.shaped x = true ∧ SeqAt.shaped y = true then some (.val (.bool (PyData.eqv x y))) else none
theorem os_eq : OpS K C (rEqD K) pEq := by
  intro H U σ env dx dy vx vy r Q S hx hy e q
  unfold pEq at e
  split at e
  · rename_i hc
    cases e
    exact ⟨dx, dy, hx.dp, hy.dp, hc.1, hc.2, pr_val (d := .bool _) S rfl q⟩
  · cases e
def pNe (x y : D) : Option R := if SeqAt.shaped x = true ∧ SeqAt.shaped y = true then some (.val (.bool (!PyData.eqv x y))) else none
theorem os_ne : OpS K C (rNeD K) pNe := by
  intro H U σ env dx dy vx vy r Q S hx hy e q
  unfold pNe at e
  split at e
  · rename_i hc
    cases e
    exact ⟨dx, dy, hx.dp, hy.dp, hc.1, hc.2, pr_val (d := .bool _) S rfl q⟩
  · cases e
theorem op_eqX (ax : Ax X) : OpR X (compareOp .Eq) (rEqD X.K) := op_eqD ax.un
theorem op_neX (ax : Ax X) : OpR X (compareOp .NotEq) (rNeD X.K) := op_neD ax.un
def pCmpI (g : Int → Int → Bool) : D → D → Option R
  | .int i, .int j => some (.val (.bool (g i j)))
  | _, _ => none
theorem os_cmpI (g : Int → Int → Bool) : OpS K C (rI0 fun i j => .bl (g i j)) (pCmpI g) := by
  intro H U σ env dx dy vx vy r Q S hx hy e q
  unfold pCmpI at e
  split at e
  · cases e; cases hx; cases hy
    exact ⟨_, _, rfl, rfl, pr_val (d := .bool _) S rfl q⟩
  · cases e
abbrev pLt := pCmpI fun i j => decide (i < j)
abbrev pLe := pCmpI fun i j => decide (i ≤ j)
abbrev pGt := pCmpI fun i j => decide (j < i)
abbrev pGe := pCmpI fun i j => decide (j ≤ i)
def rIsA : R2 := fun x y H Q => (y = .non ∧ Q (.bl (decide (x = .non))) H) ∨ rIsB x y H Q
def rNotA : R2 := fun x y H Q => (y = .non ∧ Q (.bl (!decide (x = .non))) H) ∨ rNotB x y H Q
theorem op_isA : OpR X (compareOp .Is) rIsA := op_isN.or op_isBl
theorem op_notA : OpR X (compareOp .IsNot) rNotA := op_notN.or op_notBl
def isNone : D → Bool
  | .none => true
  | _ => false
theorem rdb_none {H : Hp} {Z : AP} : ∀ {d : D} {v : V}, Rdb K H Z d v → decide (v = .non) = isNone d
  | .none, _, h => by cases h; rfl
  | .bool _, _, h => by cases h; rfl
  | .int _, _, h => by cases h; rfl
  | .str _, _, h => by cases h; rfl
  | .list _, _, h => by obtain ⟨a, vs, rfl, _⟩ := h; rfl
  | .tuple _, _, h => by obtain ⟨a, vs, rfl, _⟩ := h; rfl
  | .dict _, _, h => h.elim
def pIs : D → D → Option R
  | d, .none => some (.val (.bool (isNone d)))
  | .bool a, .bool b => some (.val (.bool (decide (a = b))))
  | _, _ => none
theorem os_is : OpS K C rIsA pIs := by
  intro H U σ env dx dy vx vy r Q S hx hy e q
  unfold pIs at e
  split at e
  · cases e; cases hy
    exact .inl ⟨rfl, by rw [rdb_none hx]; exact pr_val (d := .bool _) S rfl q⟩
  · cases e; cases hx; cases hy
    exact .inr ⟨_, _, rfl, rfl, pr_val (d := .bool _) S rfl q⟩
  · cases e
def pIsNot : D → D → Option R
  | d, .none => some (.val (.bool (!isNone d)))
  | .bool a, .bool b => some (.val (.bool (!decide (a = b))))
  | _, _ => none
theorem os_isNot : OpS K C rNotA pIsNot := by
  intro H U σ env dx dy vx vy r Q S hx hy e q
  unfold pIsNot at e
  split at e
  · cases e; cases hy
    exact .inl ⟨rfl, by rw [rdb_none hx]; exact pr_val (d := .bool _) S rfl q⟩
  · cases e; cases hx; cases hy
    exact .inr ⟨_, _, rfl, rfl, pr_val (d := .bool _) S rfl q⟩
  · cases e

/-! ### subscripts -/
def pIx : D → D → Option R
  | .list ds, .int i => (atI ds i).map R.val
  | .tuple ds, .int i => (atI ds i).map R.val
  | .str z, .int i => if z.length ≤ 1000000 then (atI z.cps.toList i).map fun c => R.val (.str ⟨#[c]⟩) else none
  | _, _ => none
theorem Reps.atI {H : Hp} {Z : AP} {ds : List D} {vs : List V} (h : Reps K H Z ds vs) {i : Int} {d : D} (e : L2.atI ds i = some d) : ∃ v, L2.atI vs i = some v ∧ Rep K H Z d v := by
  unfold L2.atI at e ⊢
  rw [h.length]
  rw [Option.bind_eq_some_iff] at e
  obtain ⟨j, e1, e2⟩ := e
  obtain ⟨v, e3, r⟩ := h.get e2
  exact ⟨v, by rw [e1]; exact e3, r⟩
theorem os_ix : OpS K C (rIx K) pIx := by
  intro H U σ env dx dy vx vy r Q S hx hy e q
  unfold pIx at e
  split at e
  · rw [Option.map_eq_some_iff] at e
    obtain ⟨d, e1, rfl⟩ := e
    cases hy
    obtain ⟨a, vs, rfl, h1, r1⟩ := hx
    obtain ⟨v, e2, r2⟩ := r1.atI e1
    exact .inl ⟨a, vs, _, v, rfl, rfl, .inl (.inl h1), e2, pr_val S r2 q⟩
  · rw [Option.map_eq_some_iff] at e
    obtain ⟨d, e1, rfl⟩ := e
    cases hy
    obtain ⟨a, vs, rfl, h1, r1⟩ := hx
    obtain ⟨v, e2, r2⟩ := r1.atI e1
    exact .inr (.inl ⟨a, vs, _, v, rfl, rfl, h1, e2, pr_val S r2 q⟩)
  · split at e
    · rename_i hl
      rw [Option.map_eq_some_iff] at e
      obtain ⟨c, e1, rfl⟩ := e
      cases hy; cases hx
      exact .inr (.inr ⟨_, _, c, rfl, rfl, Nat.le_trans hl m_le, e1, pr_val (d := .str _) S rfl q⟩)
    · cases e
  · cases e
/-- a slice, by its parts -/
def cutG {α : Type} (xs : List α) (lo hi : Option Int) : List α := (xs.drop (HT.sIx xs.length 0 lo)).take (HT.sIx xs.length xs.length hi - HT.sIx xs.length 0 lo)
theorem Reps.cut {H : Hp} {Z : AP} {ds : List D} {vs : List V} (h : Reps K H Z ds vs) (lo hi : Option Int) : Reps K H Z (cutG ds lo hi) (cutV vs lo hi) := by
  unfold cutG cutV
  rw [h.length]
  exact (h.drop _).take _
def rSlAll (K : PySem.W.Frag) : V → Option Int → Option Int → Hp → VK → Prop := fun x lo hi H Q => rSlL K x lo hi H Q ∨ rSlA K x lo hi H Q
theorem sl_all : SlR X (rSlAll X.K) := sl_list.or sl_tupA
def pSl : D → Option Int → Option Int → Option R
  | .list ds, lo, hi => some (.fr (.list (cutG ds lo hi)))
  | .tuple ds, lo, hi => some (.val (.tuple (cutG ds lo hi)))
  | _, _, _ => none
theorem ss_sl {H : Hp} {U : AP} {σ : L2.St} {env : Env'} {d : D} {v : V} {lo hi : Option Int} {r : R} {Q : VK} (S : Stt K C H U σ env) (h : Rdb K H (Zo C.B U) d v) (e : pSl d lo hi = some r) (q : PR K C H U σ env r Q) : rSlAll K v lo hi H Q := by
  unfold pSl at e
  split at e
  · cases e
    obtain ⟨a, vs, rfl, h1, r1⟩ := h
    exact .inl ⟨a, vs, rfl, .inl (.inl h1), pr_list S (r1.cut lo hi) q⟩
  · cases e
    obtain ⟨a, vs, rfl, h1, r1⟩ := h
    have r2 := r1.cut lo hi
    refine .inr ⟨a, vs, rfl, h1, fun z => ?_, fun _ => pr_tuple S r2 q⟩
    have e : cutV vs lo hi = vs := by
      unfold cutV
      rw [z.1, z.2, List.drop_zero, Nat.sub_zero, List.take_length]
    rw [e] at r2
    exact pr_val (d := .tuple _) S ⟨a, vs, rfl, h1, r2⟩ q
  · cases e
/-- the parts of a slice -/
abbrev EvO := Env' → Option (Option Int × Env')
def tO (K : PySem.W.Frag) (C : Cn) (f : EvO) : TO := fun σ H Q => ∃ U env o env', Stt K C H U σ env ∧ f env = some (o, env') ∧ ∀ H' U', Stp H U H' U' → Stt K C H' U' σ env' → Q o H'
def EvPO (X : Cx) (C : Cn) (e : Option Expr) (f : EvO) : Prop := PO X e (tO X.K C f)
theorem PO.weaken {X : Cx} {e : Option Expr} {t t' : TO} (h : PO X e t) (k : ∀ σ H Q, t' σ H Q → t σ H Q) : PO X e t' := ⟨fun pins s σ H Q I q => h.run pins s σ H Q I (k σ H Q q)⟩
def oNone : EvO := fun env => some (none, env)
def oSome (f : Ev) : EvO := fun env => (f env).bind fun a => match a.1 with
  | .val (.int i) => some (some i, a.2)
  | _ => none
theorem eo_none : EvPO X C none oNone := PO.weaken po_none fun σ H Q ⟨U, env, o, env', st, e, q⟩ => by
  cases e
  exact q H U .refl st
theorem eo_some {e : Expr} {f : Ev} (h : EvE X C e f) : EvPO X C (some e) (oSome f) := PO.weaken (po_some h) fun σ H Q ⟨U, env, o, env', st, e, q⟩ => by
  simp only [oSome, Option.bind_eq_some_iff] at e
  obtain ⟨⟨ra, e1⟩, hf, e⟩ := e
  refine ⟨U, env, ra, e1, st, hf, fun v H1 U1 s1 st1 r1 => ?_⟩
  simp only at e
  split at e
  · cases e
    cases r1
    exact ⟨_, rfl, q H1 U1 s1 st1⟩
  · cases e
def eSl (f : Ev) (lo hi : EvO) : Ev := fun env => (f env).bind fun a => (lo a.2).bind fun l => (hi l.2).bind fun h => (deref h.2 a.1.fz).bind fun d => (pSl d l.1 h.1).map fun r => (r, h.2)
theorem ev_sl {e : Expr} {lo hi : Option Expr} {f : Ev} {l h : EvO} {pos p2 : Pos} (he : EvE X C e f) (hl : EvPO X C lo l) (hh : EvPO X C hi h) : EvE X C (.Subscript e (.Slice lo hi none p2) pos) (eSl f l h) :=
  PE.weaken (pe_slice sl_all he hl hh) fun σ H Q ⟨U, env, r, env', st, e, q⟩ => by
    simp only [eSl, Option.bind_eq_some_iff, Option.map_eq_some_iff] at e
    obtain ⟨⟨ra, e1⟩, hf, ⟨lo', e2⟩, hl', ⟨hi', e3⟩, hh', d, hd, r', hp, e⟩ := e
    obtain ⟨rfl, rfl⟩ := Prod.mk.inj e
    refine ⟨U, env, ra, e1, st, hf, fun v H1 U1 s1 st1 r1 => ?_⟩
    obtain ⟨U1', s1', st1', r1'⟩ := fz_ok st1 r1
    refine ⟨U1', e1, lo', e2, st1', hl', fun H2 U2 s2 st2 => ⟨U2, e2, hi', e3, st2, hh', fun H3 U3 s3 st3 => ?_⟩⟩
    have ha := deref_ok st3 (Sm.held (env' := e3) st1' r1' (s2.trans s3)) hd
    exact ss_sl st3 ha hp (q.stp (((s1.trans s1').trans s2).trans s3))
/-- the script's slice from its beginning -/
def eScr (i : Nat) (hi : EvO) : Ev := fun env => (hi env).bind fun h => match env[i]? with
  | some (.scr ns) => some (.fr (.list ((cutG ns none h.1).map PyData.int)), h.2)
  | _ => none
theorem cut_map {α β : Type} (f : α → β) (xs : List α) (lo hi : Option Int) : cutG (xs.map f) lo hi = (cutG xs lo hi).map f := by
  unfold cutG
  rw [List.length_map, List.map_take, List.map_drop]
theorem ev_scr {x : Str} {i : Nat} {hi : Option Expr} {h : EvO} {p1 p2 pos : Pos} (he : PE X (.Name x p1) (tVar i)) (hh : EvPO X C hi h) : EvE X C (.Subscript (.Name x p1) (.Slice none hi none p2) pos) (eScr i h) :=
  PE.weaken (pe_slice sl_list he po_none hh) fun σ H Q ⟨U, env, r, env', st, e, q⟩ => by
    simp only [eScr, Option.bind_eq_some_iff] at e
    obtain ⟨⟨hi', e3⟩, hh', e⟩ := e
    simp only at e
    split at e
    · rename_i ns hn
      obtain ⟨rfl, rfl⟩ := Prod.mk.inj (Option.some.inj e)
      obtain ⟨a, ea, hs⟩ := st.scrs i ns hn
      refine ⟨_, ea, U, env, hi', e3, st, hh', fun H3 U3 s3 st3 => ⟨a, _, rfl, (scrL_stp st.dom s3 hs).sq, ?_⟩⟩
      refine pr_list st3 ?_ (q.stp s3)
      have e4 : cutV (ns.map V.int) none hi' = (cutG ns none hi').map V.int := cut_map _ _ _ _
      rw [e4]
      exact Reps.ints _
    · cases e
/-- xs[::-1] of a list -/
def eRev (f : Ev) : Ev := fun env => (f env).bind fun a => match deref a.2 a.1 with
  | some (.list ds) => some (.fr (.list ds.reverse), a.2)
  | _ => none
theorem ev_rev {e : Expr} {f : Ev} {k : Nat} {p1 p2 p3 pos : Pos} (he : EvE X C e f) : EvE X C (.Subscript e (.Slice none none (some (.UnaryOp .USub (.Constant (.int 1) k p1) p2)) p3) pos) (eRev f) :=
  PE.weaken (pe_revL he) fun σ H Q ⟨U, env, r, env', st, e, q⟩ => by
    simp only [eRev, Option.bind_eq_some_iff] at e
    obtain ⟨⟨ra, e1⟩, hf, e⟩ := e
    simp only at e
    split at e
    · rename_i ds hd
      obtain ⟨rfl, rfl⟩ := Prod.mk.inj (Option.some.inj e)
      refine ⟨U, env, ra, e1, st, hf, fun v H1 U1 s1 st1 r1 => ?_⟩
      obtain ⟨a, vs, rfl, h1, r⟩ := deref_ok st1 r1 hd
      exact ⟨a, vs, rfl, .inl (.inl h1), pr_list st1 r.reverse (q.stp s1)⟩
    · cases e

/-! ### builtins -/
def pLen : List D → Option R
  | [.list ds] => some (.val (.int ds.length))
  | [.tuple ds] => some (.val (.int ds.length))
  | [.str z] => if z.length ≤ 1000000 then some (.val (.int z.length)) else none
  | _ => none
def rLenA (K : PySem.W.Frag) : List V → Hp → VK → Prop := fun xs H Q => (∃ p ys, xs = [.ref p] ∧ (SqL K H p ys ∨ SqT K H p ys) ∧ Q (.int ys.length) H) ∨ (∃ z, xs = [.str z] ∧ z.length ≤ sizeLine ∧ Q (.int z.length) H)
theorem cr_lenA : CallR X (.builtin "len") (rLenA X.K) := call_len_seq.or call_len_str
theorem cs_len : CaS K C (rLenA K) pLen := by
  intro H U σ env ds vs r Q S h e q
  unfold pLen at e
  split at e
  · cases e
    obtain ⟨v, t, rfl, ⟨a, ws, rfl, h1, r1⟩, h2⟩ := h
    cases h2
    exact .inl ⟨a, ws, rfl, .inl (.inl (.inl h1)), by rw [r1.length]; exact pr_val (d := .int _) S rfl q⟩
  · cases e
    obtain ⟨v, t, rfl, ⟨a, ws, rfl, h1, r1⟩, h2⟩ := h
    cases h2
    exact .inl ⟨a, ws, rfl, .inr h1, by rw [r1.length]; exact pr_val (d := .int _) S rfl q⟩
  · split at e
    · rename_i hl
      cases e
      obtain ⟨v, t, rfl, h1, h2⟩ := h
      cases h2; cases h1
      exact .inr ⟨_, rfl, Nat.le_trans hl m_le, pr_val (d := .int _) S rfl q⟩
    · cases e
  · cases e
def pAbs : List D → Option R
  | [.int i] => some (.val (.int (if i < 0 then -i else i)))
  | _ => none
theorem cs_abs : CaS K C (fun xs H Q => ∃ i, xs = [.int i] ∧ Q (.int (if i < 0 then -i else i)) H) pAbs := by
  intro H U σ env ds vs r Q S h e q
  unfold pAbs at e
  split at e
  · cases e
    obtain ⟨v, t, rfl, h1, h2⟩ := h
    cases h2; cases h1
    exact ⟨_, rfl, pr_val (d := .int _) S rfl q⟩
  · cases e
def pInt : List D → Option R
  | [.int i] => some (.val (.int i))
  | [.bool b] => some (.val (.int (if b then 1 else 0)))
  | _ => none
theorem cs_int : CaS K C (fun xs H Q => (∃ i, xs = [.int i] ∧ Q (.int i) H) ∨ ∃ k, xs = [.bl k] ∧ Q (.int (if k then 1 else 0)) H) pInt := by
  intro H U σ env ds vs r Q S h e q
  unfold pInt at e
  split at e
  · cases e
    obtain ⟨v, t, rfl, h1, h2⟩ := h
    cases h2; cases h1
    exact .inl ⟨_, rfl, pr_val (d := .int _) S rfl q⟩
  · cases e
    obtain ⟨v, t, rfl, h1, h2⟩ := h
    cases h2; cases h1
    exact .inr ⟨_, rfl, pr_val (d := .int _) S rfl q⟩
  · cases e
def intsOf : List D → Option (List Int)
  | [] => some []
  | .int i :: ds => (intsOf ds).map fun r => i :: r
  | _ => none
theorem intsOf_map : ∀ ns : List Int, intsOf (ns.map PyData.int) = some ns
  | [] => rfl
  | n :: ns => by simp [intsOf, intsOf_map ns]
theorem intsOf_inv : ∀ {ds : List D} {ns : List Int}, intsOf ds = some ns → ds = ns.map PyData.int
  | [], _, e => by cases e; rfl
  | .int i :: ds, ns, e => by
    simp only [intsOf, Option.map_eq_some_iff] at e
    obtain ⟨r, e, rfl⟩ := e
    rw [intsOf_inv e, List.map_cons]
  | .none :: ds, ns, e => by simp [intsOf] at e
  | .bool _ :: ds, ns, e => by simp [intsOf] at e
  | .str _ :: ds, ns, e => by simp [intsOf] at e
  | .list _ :: ds, ns, e => by simp [intsOf] at e
  | .tuple _ :: ds, ns, e => by simp [intsOf] at e
  | .dict _ :: ds, ns, e => by simp [intsOf] at e
def boolsOf : List D → Option (List Bool)
  | [] => some []
  | .bool i :: ds => (boolsOf ds).map fun r => i :: r
  | _ => none
theorem boolsOf_map : ∀ ns : List Bool, boolsOf (ns.map PyData.bool) = some ns
  | [] => rfl
  | n :: ns => by simp [boolsOf, boolsOf_map ns]
theorem boolsOf_inv : ∀ {ds : List D} {ns : List Bool}, boolsOf ds = some ns → ds = ns.map PyData.bool
  | [], _, e => by cases e; rfl
  | .bool i :: ds, ns, e => by
    simp only [boolsOf, Option.map_eq_some_iff] at e
    obtain ⟨r, e, rfl⟩ := e
    rw [boolsOf_inv e, List.map_cons]
  | .none :: ds, ns, e => by simp [boolsOf] at e
  | .int _ :: ds, ns, e => by simp [boolsOf] at e
  | .str _ :: ds, ns, e => by simp [boolsOf] at e
  | .list _ :: ds, ns, e => by simp [boolsOf] at e
  | .tuple _ :: ds, ns, e => by simp [boolsOf] at e
  | .dict _ :: ds, ns, e => by simp [boolsOf] at e
def pSum : List D → Option R
  | [.list ds] => (intsOf ds).map fun ns => .val (.int ns.sum)
  | _ => none
theorem cs_sum : CaS K C (rSum K) pSum := by
  intro H U σ env ds vs r Q S h e q
  unfold pSum at e
  split at e
  · rw [Option.map_eq_some_iff] at e
    obtain ⟨ns, e1, rfl⟩ := e
    obtain ⟨v, t, rfl, ⟨a, ws, rfl, h1, r1⟩, h2⟩ := h
    cases h2
    rw [intsOf_inv e1] at r1
    rw [r1.ints_inv] at h1
    exact ⟨a, ns, rfl, .inl (.inl h1), pr_val (d := .int _) S rfl q⟩
  · cases e
def pAll : List D → Option R
  | [.list ds] => (boolsOf ds).map fun ns => .val (.bool (ns.all id))
  | _ => none
theorem cs_all : CaS K C (rAll K) pAll := by
  intro H U σ env ds vs r Q S h e q
  unfold pAll at e
  split at e
  · rw [Option.map_eq_some_iff] at e
    obtain ⟨ns, e1, rfl⟩ := e
    obtain ⟨v, t, rfl, ⟨a, ws, rfl, h1, r1⟩, h2⟩ := h
    cases h2
    rw [boolsOf_inv e1] at r1
    rw [r1.bools_inv] at h1
    exact ⟨a, ns, rfl, .inl (.inl h1), pr_val (d := .bool _) S rfl q⟩
  · cases e
def pAny : List D → Option R
  | [.list ds] => (boolsOf ds).map fun ns => .val (.bool (ns.any id))
  | _ => none
theorem cs_any : CaS K C (rAny K) pAny := by
  intro H U σ env ds vs r Q S h e q
  unfold pAny at e
  split at e
  · rw [Option.map_eq_some_iff] at e
    obtain ⟨ns, e1, rfl⟩ := e
    obtain ⟨v, t, rfl, ⟨a, ws, rfl, h1, r1⟩, h2⟩ := h
    cases h2
    rw [boolsOf_inv e1] at r1
    rw [r1.bools_inv] at h1
    exact ⟨a, ns, rfl, .inl (.inl h1), pr_val (d := .bool _) S rfl q⟩
  · cases e
def pTuple : List D → Option R
  | [.list ds] => some (.val (.tuple ds))
  | [.tuple ds] => some (.val (.tuple ds))
  | _ => none
theorem cs_tuple : CaS K C (fun xs H Q => ∃ p ys, xs = [.ref p] ∧ ((SqL K H p ys ∧ ∀ l, H l = none → Q (.ref l) (upd H l (.tup ys))) ∨ (SqT K H p ys ∧ Q (.ref p) H))) pTuple := by
  intro H U σ env ds vs r Q S h e q
  unfold pTuple at e
  split at e
  · cases e
    obtain ⟨v, t, rfl, ⟨a, ws, rfl, h1, r1⟩, h2⟩ := h
    cases h2
    exact ⟨a, ws, rfl, .inl ⟨.inl (.inl h1), pr_tuple S r1 q⟩⟩
  · cases e
    obtain ⟨v, t, rfl, ⟨a, ws, rfl, h1, r1⟩, h2⟩ := h
    cases h2
    exact ⟨a, ws, rfl, .inr ⟨h1, pr_val (d := .tuple _) S ⟨a, ws, rfl, h1, r1⟩ q⟩⟩
  · cases e
def pList : List D → Option R
  | [.list ds] => some (.fr (.list ds))
  | [.tuple ds] => some (.fr (.list ds))
  | _ => none
theorem cs_list : CaS K C (fun xs H Q => ∃ p ys, xs = [.ref p] ∧ (SqL K H p ys ∨ SqT K H p ys) ∧ ∀ l, H l = none → Q (.ref l) (upd H l (.lst ys))) pList := by
  intro H U σ env ds vs r Q S h e q
  unfold pList at e
  split at e
  · cases e
    obtain ⟨v, t, rfl, ⟨a, ws, rfl, h1, r1⟩, h2⟩ := h
    cases h2
    exact ⟨a, ws, rfl, .inl (.inl (.inl h1)), pr_list S r1 q⟩
  · cases e
    obtain ⟨v, t, rfl, ⟨a, ws, rfl, h1, r1⟩, h2⟩ := h
    cases h2
    exact ⟨a, ws, rfl, .inr h1, pr_list S r1 q⟩
  · cases e
end
end Sm
set_option Elab.async false
set_option linter.all false
set_option maxRecDepth 100000
set_option maxHeartbeats 1000000
/-! The layer: iterators of new tuples: zip of two or three, enumerate, over lists and tuples in any mix. -/
namespace Sm
open PySem PySem.Spec PyProof.Rows L2

/-- a list or a tuple that is walked -/
inductive Src where
  | l (a : Addr) | t (a : Addr)
def Src.ad : Src → Addr
  | .l a => a
  | .t a => a
def Src.It : Src → Addr → Nat → Heap → Prop
  | .l a, it, i, h => h.IsListIter it a i
  | .t a, it, i, h => h.IsTupleIter it a i
def Src.Is : Src → Array Value → Heap → Prop
  | .l a, us, h => h.IsList a us
  | .t a, us, h => h.IsTuple a us
def Src.Sq (K : PySem.W.Frag) (H : Hp) : Src → List V → Prop
  | .l a, xs => SqL K H a xs
  | .t a, xs => SqT K H a xs
def Src.ob : Src → Obj
  | .l a => { cls := .type "list_iterator", data := .fields #[.ref a, .int 0 0] }
  | .t a => { cls := .type "tuple_iterator", data := .fields #[.ref a, .int 0 0] }
section
variable {X : Cx} {pins : List (Addr × Obj)} {σ : L2.St} {H : Hp} {s : Shared}
theorem Src.inv (I : Inv X pins σ H s) : ∀ {c : Src} {xs : List V}, c.Sq X.K H xs → ∃ us : List Value, Vals xs us ∧ c.Is us.toArray s.heap ∧ xs.length ≤ sizeLine
  | .l a, xs, h => by
    obtain ⟨us, r, p, z⟩ := I.list h
    exact ⟨us, r, p.isList, z⟩
  | .t a, xs, h => by
    obtain ⟨us, r, p, z⟩ := I.tuple h
    exact ⟨us, r, p, z⟩
theorem Src.inj (I : Inv X pins σ H s) : ∀ {c : Src} {xs ys : List V}, c.Sq X.K H xs → c.Sq X.K H ys → xs = ys
  | .l a, _, _, h, k => I.list_inj h k
  | .t a, _, _, h, k => I.tuple_inj h k
theorem Src.it_obj : ∀ {c : Src} {it : Addr} {i : Nat} {h : Heap}, c.It it i h → ∃ o, h.get? it = some o ∧ ∀ v, o.data ≠ .cell v
  | .l a, it, i, h, st => by
    obtain ⟨o, e, c, d⟩ := st
    exact ⟨o, e, fun v z => by rw [d] at z; cases z⟩
  | .t a, it, i, h, st => by
    obtain ⟨o, e, c, d⟩ := st
    exact ⟨o, e, fun v z => by rw [d] at z; cases z⟩
theorem Src.it_at {h' : Heap} : ∀ {c : Src} {it : Addr} {i : Nat} {h : Heap}, c.It it i h → (∀ o, h.get? it = some o → h'.get? it = some o) → c.It it i h'
  | .l a, it, i, h, st, k => st.at k
  | .t a, it, i, h, st, k => st.at k
theorem Src.is_lt : ∀ {c : Src} {us : Array Value} {h : Heap}, c.Is us h → c.ad < h.objs.size
  | .l a, us, h, x => by
    obtain ⟨o, e, _⟩ := x
    exact Heap.lt_size e
  | .t a, us, h, x => by
    obtain ⟨o, e, _⟩ := x
    exact Heap.lt_size e
theorem Src.draws {prog : Program} {w : World} {A : Around} (hh : A.handled = none) (it : Addr) : ∀ (c : Src), c.ad ≠ it → ∀ items : Array Value, Draws prog w A it [it, c.ad] items.size (fun i v => items[i]? = some v) (fun i h => c.It it i h ∧ c.Is items h)
  | .l a, hne, items => Draws.list hh it a hne items
  | .t a, hne, items => Draws.tuple hh it a hne items
theorem Src.begins : ∀ (c : Src) (items : Array Value), Begins (.ref c.ad) c.ob (c.Is items)
  | .l a, items => begins_list a items
  | .t a, items => begins_tuple a items
theorem Src.it0 : ∀ (c : Src) {it : Addr} {h : Heap}, h.get? it = some c.ob → c.It it 0 h
  | .l a, it, h, e => ⟨_, e, rfl, rfl⟩
  | .t a, it, h, e => ⟨_, e, rfl, rfl⟩
end

/-- an iterator that lays a new tuple at each turn, from the library's steps -/
theorem turn_new {P : Program} {w : World} {K : PySem.W.Frag} {tg : Expr} {J : It} {fp : List Addr} {it : Addr} {tn : Nat → Heap → Prop} (mem : it ∈ fp)
    (obj : ∀ i h, tn i h → ∀ b ∈ fp, ∃ o, h.get? b = some o ∧ ∀ v, o.data ≠ .cell v)
    (keep : ∀ i h h', tn i h → (∀ b ∈ fp, ∀ o, h.get? b = some o → h'.get? b = some o) → tn i h')
    (go : ∀ (X : Cx), X.prog = P → X.w = w → X.K = K → X.calm = true → ∀ (i : Nat) (pins : List (Addr × Obj)) (s : Shared) (σ : L2.St) (H : Hp), Inv X pins σ H s → tn i s.heap → J.go i H →
      ∃ (fp' wr : List Addr) (n : Nat) (Y : Nat → Heap → Value → Heap → Prop) (St : Nat → Heap → Prop), GoesN P w X.A tg it fp' wr n Y St ∧ (∀ b ∈ wr, b ∈ fp) ∧ i < n ∧ St i s.heap ∧ (∀ h', St (i + 1) h' → tn (i + 1) h') ∧
        ∀ v h', Y i s.heap v h' → ∃ (T : Addr) (vs : List V) (us : List Value), v = .ref T ∧ s.heap.objs.size ≤ T ∧ Vals vs us ∧ vs.length ≤ sizeLine ∧ h'.IsTuple T us.toArray ∧ (H T = none → J.yld i H (.ref T) (upd H T (.tup vs))))
    (stop : ∀ (X : Cx), X.prog = P → X.w = w → X.K = K → X.calm = true → ∀ (i : Nat) (pins : List (Addr × Obj)) (s : Shared) (σ : L2.St) (H : Hp), Inv X pins σ H s → tn i s.heap → J.stop i H →
      ∃ (fp' wr : List Addr) (Y : Nat → Heap → Value → Heap → Prop) (St : Nat → Heap → Prop), GoesN P w X.A tg it fp' wr i Y St ∧ (∀ b ∈ wr, b ∈ fp) ∧ St i s.heap)
    (self : ∀ (A : Around) (i : Nat) (s : Shared) (Q : Value → Shared → Prop) (E : Value → Shared → Prop), tn i s.heap → Q (.ref it) s → wpAny (model P w) A (pyIter (.ref it)) Q E s) : Turn P w K tg J fp it tn where
  mem := mem
  obj := obj
  keep := keep
  self := self
  item := by
    intro X hP hw hK hc i pins s σ H E I hf st hg
    obtain ⟨fp', wr, n, Y, St, G, sub, hi, st', nx, hy⟩ := go X hP hw hK hc i pins s σ H I st hg
    refine thn (G.goes i s (fun u s2 => ∃ x H', Inv X pins σ H' s2 ∧ RelV x u ∧ J.yld i H x H' ∧ tn (i + 1) s2.heap ∧ ∀ b ∈ fp, H' b = none) E hi st' fun v h' tk yv stv kv _ => ?_) fun r s1 h => h
    obtain ⟨T, vs, us, rfl, hT, rv, hz, isT, yl⟩ := hy v h' yv
    have hn : H T = none := I.hok.fresh hT
    have new : ObjOk X.prog X.w (upd H T (.tup vs)) h' T (.tup vs) := ⟨hz, us, rv, isT⟩
    have I1 : Inv X pins σ (upd H T (.tup vs)) { s with heap := h', toks := tk } :=
      I.turnedNew (t' := tk) (ch := fp) (fun b o hb e => kv b o (fun z => hb (sub b z)) e) hf hT new
    refine ⟨.ref T, _, I1, rfl, yl hn, nx h' stv, fun b hb => ?_⟩
    obtain ⟨o, e, _⟩ := obj i _ st b hb
    rw [upd_ne (Nat.ne_of_lt (Nat.lt_of_lt_of_le (Heap.lt_size e) hT))]
    exact (hf b hb).1
  done := by
    intro X hP hw hK hc i pins s σ H E I hf st hs
    obtain ⟨fp', wr, Y, St, G, sub, st'⟩ := stop X hP hw hK hc i pins s σ H I st hs
    refine thn (G.stops s (fun s1 => Inv X pins σ H s1) E st' fun h' tk kv _ => ?_) fun r s1 h => h
    exact I.turnedL (t' := tk) (ch := fp) (fun b o hb e => kv b o (fun z => hb (sub b z)) e) hf

/-! ### enumerate -/
def ItE (K : PySem.W.Frag) (c : Src) : It :=
  ⟨fun i H => ∃ (xs : List V) (x : V), c.Sq K H xs ∧ xs[i]? = some x, fun i H v H' => ∃ T x, v = .ref T ∧ H T = none ∧ H' = upd H T (.tup [.int (i : Nat), x]) ∧ ∀ xs, c.Sq K H xs → xs[i]? = some x, fun i H => ∃ xs : List V, c.Sq K H xs ∧ i = xs.length⟩
theorem turn_enumS {P : Program} {w : World} {K : PySem.W.Frag} {elts : List Expr} {kk : Nat} {tpos : Pos} (c : Src) (e it : Addr) (hei : e ≠ it) (hci : c.ad ≠ it) (hce : c.ad ≠ e) :
    Turn P w K (.Tuple elts kk tpos) (ItE K c) [e, it] e (fun i h => (∃ old, IsEnum h e it ((i : Nat) : Int) old) ∧ c.It it i h) := by
  refine turn_new (by simp) (fun i h st b hb => ?_) (fun i h h' st k => ?_) (fun X hP hw hK hc i pins s σ H I st hg => ?_) (fun X hP hw hK hc i pins s σ H I st hg => ?_) (fun A i s Q E st h => ?_)
  · obtain ⟨⟨old, he⟩, hi⟩ := st
    have e' : b = e ∨ b = it := by simpa using hb
    rcases e' with z | z
    · rw [z]; exact ⟨_, he, fun v q => nomatch q⟩
    · rw [z]; exact Src.it_obj hi
  · obtain ⟨⟨old, he⟩, hi⟩ := st
    exact ⟨⟨old, k e (by simp) _ he⟩, Src.it_at hi fun o q => k it (by simp) o q⟩
  · subst hP hw hK
    obtain ⟨⟨old, he⟩, hi⟩ := st
    obtain ⟨xs, x, hq, hx⟩ := hg
    obtain ⟨us, rv, p, hz⟩ := Src.inv I hq
    refine ⟨_, _, _, _, _, GoesN.enumFrom 0 (Src.draws (A := X.A.in1) (I.ok.hd hc) it c hci us.toArray) e hei (by simp; exact ⟨hei, fun z => hce z.symm⟩) (by simp), fun b hb => hb, ?_, ⟨⟨old, by rw [Int.zero_add]; exact he⟩, hi, p⟩, fun h' st' => ?_, fun v h' y => ?_⟩
    · rw [List.size_toArray, ← rv.length]
      rcases Nat.lt_or_ge i xs.length with z | z
      · exact z
      · rw [List.getElem?_eq_none z] at hx; cases hx
    · obtain ⟨⟨old', he'⟩, hi', _⟩ := st'
      rw [Int.zero_add] at he'
      exact ⟨⟨old', he'⟩, hi'⟩
    · obtain ⟨T, t, u, rfl, hT, hu, isT⟩ := y
      obtain ⟨u', hu', ru⟩ := rv.get hx
      have eu : u' = u := by
        have : us[i]? = some u := by simpa using hu
        rw [hu'] at this
        exact Option.some.inj this
      subst eu
      rw [Int.zero_add] at isT
      exact ⟨T, [.int (i : Nat), x], [.int (i : Nat) t, u'], rfl, hT, .cons ⟨t, rfl⟩ (.cons ru .nil), by show 2 ≤ sizeLine; decide, isT, fun hn => ⟨T, x, rfl, hn, rfl, fun ys hy => by rw [Src.inj I hy hq]; exact hx⟩⟩
  · subst hP hw hK
    obtain ⟨⟨old, he⟩, hi⟩ := st
    obtain ⟨xs, hq, hx⟩ := hg
    obtain ⟨us, rv, p, hz⟩ := Src.inv I hq
    have en : us.toArray.size = i := by rw [List.size_toArray, ← rv.length]; exact hx.symm
    have G := GoesN.enumFrom (prog := X.prog) (w := X.w) (A := X.A) (elts := elts) (x1 := kk) (pos := tpos) 0 (Src.draws (A := X.A.in1) (prog := X.prog) (w := X.w) (I.ok.hd hc) it c hci us.toArray) e hei (by simp; exact ⟨hei, fun z => hce z.symm⟩) (by simp)
    rw [en] at G
    exact ⟨_, _, _, _, G, fun b hb => hb, ⟨⟨old, by rw [Int.zero_add]; exact he⟩, hi, p⟩⟩
  · obtain ⟨⟨old, he⟩, hi⟩ := st
    exact wpAny_pyIter_enum he h
set_option maxHeartbeats 1000000 in
theorem meets_enumerate_B1 {v : Value} {o : Obj} {H : Heap → Prop} (B : Begins v o H) :
    Meets (Builtin.«enumerate.__new__» ⟨[.type "enumerate", v], []⟩) (fun _ R s => H s.heap ∧
      R (.ok (.ret (.ref (s.heap.push o).objs.size))) { s with heap := (s.heap.push o).push { cls := .type "enumerate", data := .fields #[.none, .bool false, .ref s.heap.objs.size, rawInt 0, .none, .none] } }) :=
  .of_wp fun prog w A R s h => by
    obtain ⟨hp, g, d, tk, os⟩ := s; obtain ⟨h1, h⟩ := h
    have hsub := sub_enumerate
    have q1 : ∀ {A' : Around} {E : Value → Shared → Prop} {Q : Value → Shared → Prop}, Q (.ref hp.objs.size) ⟨hp.push o, g, d, tk, os⟩ → wpAny (model prog w) A' (pyIter v) Q E ⟨hp, g, d, tk, os⟩ :=
      fun q => B.iter prog w _ _ ⟨hp, g, d, tk, os⟩ _ h1 q
    wp_walk using q1
    refine wpAny_stack_any fun st => wpAny_pure ?_
    split
    · rename_i c _ _ _ _ _
      cases (c == Value.type "enumerate")
      · wp_walk using q1
        exact ⟨_, rfl, h⟩
      · wp_walk using q1
        exact ⟨_, rfl, h⟩
    · wp_walk using q1
      exact ⟨_, rfl, h⟩
theorem call_enumerate_B {prog : Program} {w : World} {A : Around} {E : Value → Shared → Prop} {s : Shared} {v : Value} {o : Obj} {H : Heap → Prop} {Q : Value → Shared → Prop} (B : Begins v o H) (h1 : H s.heap)
    (h : ∀ h', IsEnum h' (s.heap.objs.size + 1) s.heap.objs.size 0 .none → h'.get? s.heap.objs.size = some o → h'.objs.size = s.heap.objs.size + 2 →
      (∀ b o, s.heap.get? b = some o → h'.get? b = some o) → Q (.ref (s.heap.objs.size + 1)) { s with heap := h' }) :
    wpAny (model prog w) A (call (.type "enumerate") [v]) Q E s := by
  refine callType_new F.called_enumerate (by decide) (F.typeCall_enumerate_1 _) (F.newCall_enumerate_1 _) (fun obj => F.args_object_init_2 obj _) F.entry_enumerate_new
    (meets_enumerate_B1 B) ⟨h1, ?_⟩
  have hz : (s.heap.push o).objs.size = s.heap.objs.size + 1 := Heap.size_push ..
  show _ ∧ _
  rw [hz]
  have he : IsEnum ((s.heap.push o).push { cls := .type "enumerate", data := .fields #[.none, .bool false, .ref s.heap.objs.size, rawInt 0, .none, .none] }) (s.heap.objs.size + 1) s.heap.objs.size 0 .none := by
    have := Heap.get?_push_size (s.heap.push o) (o := { cls := .type "enumerate", data := .fields #[.none, .bool false, .ref s.heap.objs.size, rawInt 0, .none, .none] }) rfl
    rw [hz] at this; exact this
  refine ⟨⟨_, he, rfl⟩, h _ he (Heap.get?_push_of_some _ (Heap.get?_push_size _ B.free)) (by rw [Heap.size_push, hz]) fun b o x => Heap.get?_push_of_some _ (Heap.get?_push_of_some _ x)⟩
/-- what may be walked: a list or a tuple, as it may be read -/
def iEnS (K : PySem.W.Frag) (ta : TA) : TI := fun σ H R => ta σ H fun vs H1 => ∃ (c : Src) (xs : List V), vs = [.ref c.ad] ∧ c.Sq K H1 xs ∧ R (ItE K c) H1
theorem pi_enumS {X : Cx} {e : Expr} {ta : TA} {p pos tpos : Pos} {elts : List Expr} {kk : Nat} (hg : Gl X "enumerate") (hm : X.mg "enumerate" = none) (ha : PA X [e] ta) (hs : starEach [e] X.env = [(false, eval e X.env)] := by rfl) :
    PI X (.Tuple elts kk tpos) (.Call (.Name "enumerate" p) [e] [] pos) (iEnS X.K ta) := by
  refine ⟨fun pins s σ H R I h => ?_⟩
  refine Call_ (ld_blt I hg hm boot_enumerate (PyProof.Rows.callWith_type1 (thn (ha.run pos pins s σ H _ I h) fun us s1 ⟨vs, H1, I1, r1, q1⟩ => ?_) hs rfl))
  obtain ⟨c, xs, ex, hq, q⟩ := q1
  subst ex
  cases r1 with
  | cons r rr =>
    cases rr
    cases r
    obtain ⟨its, rv, p', hz⟩ := Src.inv I1 hq
    have hlt := Src.is_lt p'
    refine call_enumerate_B (c.begins its.toArray) p' fun h' he ho hsz hk => wpAny_pyIter_enum he ?_
    have I2 : Inv X pins σ H1 { s1 with heap := h' } := I1.kept (t' := s1.toks) hk
    refine ⟨s1.heap.objs.size + 1, [s1.heap.objs.size + 1, s1.heap.objs.size], _, _, H1, rfl, I2, turn_enumS c (s1.heap.objs.size + 1) s1.heap.objs.size (Nat.succ_ne_self _) (Nat.ne_of_lt hlt) (Nat.ne_of_lt (Nat.lt_succ_of_lt hlt)), ⟨⟨.none, he⟩, c.it0 ho⟩, fun b hb => ?_, q⟩
    have e' : b = s1.heap.objs.size + 1 ∨ b = s1.heap.objs.size := by simpa using hb
    have hle : s1.heap.objs.size ≤ b := by
      rcases e' with z | z
      · rw [z]; exact Nat.le_add_right _ _
      · rw [z]; exact Nat.le_refl _
    exact I1.fpOk hle (I1.hok.fresh hle)

/-! ### zip of two -/
def ItZ (K : PySem.W.Frag) (c d : Src) : It :=
  ⟨fun i H => ∃ (xs ys : List V) (x y : V), c.Sq K H xs ∧ d.Sq K H ys ∧ xs[i]? = some x ∧ ys[i]? = some y,
    fun i H v H' => ∃ T x y, v = .ref T ∧ H T = none ∧ H' = upd H T (.tup [x, y]) ∧ (∀ xs, c.Sq K H xs → xs[i]? = some x) ∧ ∀ ys, d.Sq K H ys → ys[i]? = some y,
    fun i H => ∃ xs ys : List V, c.Sq K H xs ∧ d.Sq K H ys ∧ i = min xs.length ys.length⟩
theorem lt_of_get {α : Type} {xs : List α} {i : Nat} {x : α} (h : xs[i]? = some x) : i < xs.length := by
  rcases Nat.lt_or_ge i xs.length with z | z
  · exact z
  · rw [List.getElem?_eq_none z] at h; cases h
theorem at_same {us : List Value} {i : Nat} {u u' : Value} (h : us[i]? = some u) (h' : us.toArray[i]? = some u') : u = u' := by
  have : us[i]? = some u' := by simpa using h'
  rw [h] at this
  exact Option.some.inj this
theorem turn_zipS {P : Program} {w : World} {K : PySem.W.Frag} {elts : List Expr} {kk : Nat} {tpos : Pos} {c d : Src} {z TI TO i1 i2 : Addr} (hc1 : c.ad ≠ i1) (hd2 : d.ad ≠ i2) (S : ZipSep2 z TI TO i1 i2 [i1, c.ad] [i2, d.ad]) :
    Turn P w K (.Tuple elts kk tpos) (ItZ K c d) [z, TI, TO, i1, i2] z (fun i h => IsZip h z TI TO .none ∧ IsTupOf2 h TI (.ref i1) (.ref i2) ∧ (∃ a1 a2, IsTupOf2 h TO a1 a2) ∧ c.It i1 i h ∧ d.It i2 i h) := by
  refine turn_new (by simp) (fun i h st b hb => ?_) (fun i h h' st k => ?_) (fun X hP hw hK hc i pins s σ H I st hg => ?_) (fun X hP hw hK hc i pins s σ H I st hg => ?_) (fun A i s Q E st h => ?_)
  · obtain ⟨hz, hTI, ⟨x, y, hTO⟩, h1, h2⟩ := st
    have e' : b = z ∨ b = TI ∨ b = TO ∨ b = i1 ∨ b = i2 := by simpa using hb
    rcases e' with q | q | q | q | q
    · rw [q]; exact ⟨_, hz, fun v q => nomatch q⟩
    · rw [q]; exact ⟨_, hTI, fun v q => nomatch q⟩
    · rw [q]; exact ⟨_, hTO, fun v q => nomatch q⟩
    · rw [q]; exact Src.it_obj h1
    · rw [q]; exact Src.it_obj h2
  · obtain ⟨hz, hTI, ⟨x, y, hTO⟩, h1, h2⟩ := st
    exact ⟨k z (by simp) _ hz, k TI (by simp) _ hTI, ⟨x, y, k TO (by simp) _ hTO⟩, Src.it_at h1 fun o q => k i1 (by simp) o q, Src.it_at h2 fun o q => k i2 (by simp) o q⟩
  · subst hP hw hK
    obtain ⟨hz, hTI, hTO, h1, h2⟩ := st
    obtain ⟨xs, ys, x, y, hqx, hqy, hx, hy⟩ := hg
    obtain ⟨us, rv, p, hzx⟩ := Src.inv I hqx
    obtain ⟨ws, rw', p2, hzy⟩ := Src.inv I hqy
    refine ⟨_, _, _, _, _, GoesN.zip2 S (Src.draws (A := X.A.in1) (I.ok.hd hc) i1 c hc1 us.toArray) (Src.draws (A := X.A.in1) (I.ok.hd hc) i2 d hd2 ws.toArray), fun b hb => ?_, ?_, ⟨hz, hTI, hTO, ⟨h1, p⟩, ⟨h2, p2⟩⟩, fun h' st' => ?_, fun v h' yy => ?_⟩
    · have e' : b = z ∨ b = TO ∨ b = i1 ∨ b = i2 := by simpa using hb
      rcases e' with q | q | q | q <;> rw [q] <;> simp
    · have l1 := lt_of_get hx
      have l2 := lt_of_get hy
      rw [List.size_toArray, List.size_toArray, ← rv.length, ← rw'.length]
      omega
    · obtain ⟨a1, a2, a3, a4, a5⟩ := st'
      exact ⟨a1, a2, a3, a4.1, a5.1⟩
    · obtain ⟨T, u, v', rfl, hT, hu, hv, isT⟩ := yy
      obtain ⟨u', hu', ru⟩ := rv.get hx
      obtain ⟨w', hw', rw2⟩ := rw'.get hy
      obtain rfl := at_same hu' hu
      obtain rfl := at_same hw' hv
      exact ⟨T, [x, y], [u', w'], rfl, hT, .cons ru (.cons rw2 .nil), by show 2 ≤ sizeLine; decide, isT, fun hn => ⟨T, x, y, rfl, hn, rfl, fun zs hz => by rw [Src.inj I hz hqx]; exact hx, fun zs hz => by rw [Src.inj I hz hqy]; exact hy⟩⟩
  · subst hP hw hK
    obtain ⟨hz, hTI, hTO, h1, h2⟩ := st
    obtain ⟨xs, ys, hqx, hqy, he⟩ := hg
    obtain ⟨us, rv, p, hzx⟩ := Src.inv I hqx
    obtain ⟨ws, rw', p2, hzy⟩ := Src.inv I hqy
    have en : min us.toArray.size ws.toArray.size = i := by rw [List.size_toArray, List.size_toArray, ← rv.length, ← rw'.length]; exact he.symm
    have G := GoesN.zip2 (prog := X.prog) (w := X.w) (A := X.A) (elts := elts) (x1 := kk) (pos := tpos) S (Src.draws (A := X.A.in1) (prog := X.prog) (w := X.w) (I.ok.hd hc) i1 c hc1 us.toArray) (Src.draws (A := X.A.in1) (prog := X.prog) (w := X.w) (I.ok.hd hc) i2 d hd2 ws.toArray)
    rw [en] at G
    refine ⟨_, _, _, _, G, fun b hb => ?_, ⟨hz, hTI, hTO, ⟨h1, p⟩, ⟨h2, p2⟩⟩⟩
    have e' : b = z ∨ b = TO ∨ b = i1 ∨ b = i2 := by simpa using hb
    rcases e' with q | q | q | q <;> rw [q] <;> simp
  · exact wpAny_pyIter_zip st.1 h
def iZiS (K : PySem.W.Frag) (ta : TA) : TI := fun σ H R => ta σ H fun vs H1 => ∃ (c d : Src) (xs ys : List V), vs = [.ref c.ad, .ref d.ad] ∧ c.Sq K H1 xs ∧ d.Sq K H1 ys ∧ R (ItZ K c d) H1
theorem pi_zipS {X : Cx} {e e2 : Expr} {ta : TA} {p pos tpos : Pos} {elts : List Expr} {kk : Nat} (hg : Gl X "zip") (hm : X.mg "zip" = none) (ha : PA X [e, e2] ta)
    (hs : starEach [e, e2] X.env = (false, eval e X.env) :: starEach [e2] X.env := by rfl) (hpl : (backTo pos (starEach [e2] X.env)).any (·.1) = false := by rfl) :
    PI X (.Tuple elts kk tpos) (.Call (.Name "zip" p) [e, e2] [] pos) (iZiS X.K ta) := by
  refine ⟨fun pins s σ H R I h => ?_⟩
  refine Call_ (ld_blt I hg hm PyProof.Rows.boot_zip (PyProof.Rows.callWith_type1 (thn (ha.run pos pins s σ H _ I h) fun us s1 ⟨vs, H1, I1, r1, q1⟩ => ?_) hs hpl))
  obtain ⟨c, d, xs, ys, ex, hqx, hqy, q⟩ := q1
  subst ex
  cases r1 with
  | cons r rr =>
    cases rr with
    | cons r' rr =>
      cases rr
      cases r
      cases r'
      obtain ⟨us, rv, p1, _⟩ := Src.inv I1 hqx
      obtain ⟨ws, rw', p2, _⟩ := Src.inv I1 hqy
      have l1 := Src.is_lt p1
      have l2 := Src.is_lt p2
      refine zip_begins2 (c.begins us.toArray) (d.begins ws.toArray) p1 p2 fun h' hz hTI hTO h1 h2 hsz hk => wpAny_pyIter_zip hz ?_
      have I2 : Inv X pins σ H1 { s1 with heap := h' } := I1.kept (t' := s1.toks) hk
      refine ⟨s1.heap.objs.size + 4, [s1.heap.objs.size + 4, s1.heap.objs.size + 2, s1.heap.objs.size + 3, s1.heap.objs.size, s1.heap.objs.size + 1], _, _, H1, rfl, I2,
        turn_zipS (c := c) (d := d) (Nat.ne_of_lt l1) (Nat.ne_of_lt (Nat.lt_succ_of_lt l2)) (zip_sep2 (N := s1.heap.objs.size) (fp1 := [c.ad]) (fp2 := [d.ad]) (by simpa using l1) (by simpa using l2)), ⟨hz, hTI, ⟨_, _, hTO⟩, c.it0 h1, d.it0 h2⟩, fun b hb => ?_, q⟩
      have e' : b = s1.heap.objs.size + 4 ∨ b = s1.heap.objs.size + 2 ∨ b = s1.heap.objs.size + 3 ∨ b = s1.heap.objs.size ∨ b = s1.heap.objs.size + 1 := by simpa using hb
      have hle : s1.heap.objs.size ≤ b := by
        rcases e' with z | z | z | z | z
        · rw [z]; exact Nat.le_add_right _ _
        · rw [z]; exact Nat.le_add_right _ _
        · rw [z]; exact Nat.le_add_right _ _
        · rw [z]; exact Nat.le_refl _
        · rw [z]; exact Nat.le_add_right _ _
      exact I1.fpOk hle (I1.hok.fresh hle)
end Sm
set_option Elab.async false
set_option linter.all false
set_option maxRecDepth 100000
set_option maxHeartbeats 1000000
/-! The layer: tests, small statements, targets. -/
namespace Sm
open PySem PySem.Spec PyProof.Rows L2
section
variable {X : Cx} {C : Cn} {pos : Pos}

/-! ### tests -/
abbrev EvB := Env' → Option (Bool × Env')
def tT (K : PySem.W.Frag) (C : Cn) (c : EvB) : TT := fun σ H Q => ∃ U env b env', Stt K C H U σ env ∧ c env = some (b, env') ∧ ∀ H' U', Stp H U H' U' → Stt K C H' U' σ env' → Q b H'
def EvT (X : Cx) (C : Cn) (e : Expr) (c : EvB) : Prop := PT X e (tT X.K C c)
def EvW (X : Cx) (C : Cn) (e : Expr) (c : EvB) : Prop := PW X e (tT X.K C c)
theorem et_w {e : Expr} {c : EvB} (h : EvW X C e c) : EvT X C e c := PW.pt h
/-- truth of data -/
def truthD : D → Option Bool
  | .none => some false
  | .bool b => some b
  | .int i => some (i != 0)
  | .str x => if x.length ≤ 1000000 then some ((x.length : Int) != 0) else none
  | .list ds => some (!ds.isEmpty)
  | .tuple ds => some (!ds.isEmpty)
  | .dict _ => none
theorem Reps.isEmpty {K : PySem.W.Frag} {H : Hp} {Z : AP} : ∀ {ds : List D} {vs : List V}, Reps K H Z ds vs → vs.isEmpty = ds.isEmpty
  | [], _, h => by cases h; rfl
  | d :: ds, _, h => by
    obtain ⟨v, r, rfl, _⟩ := h
    rfl
theorem truth_ok {K : PySem.W.Frag} {H : Hp} {Z : AP} : ∀ {d : D} {v : V} {b : Bool}, Rdb K H Z d v → truthD d = some b → TruV K v H b
  | .none, _, _, h, e => by cases h; cases e; rfl
  | .bool _, _, _, h, e => by cases h; cases e; rfl
  | .int _, _, _, h, e => by cases h; cases e; rfl
  | .str x, _, _, h, e => by
    simp only [truthD] at e
    split at e
    · rename_i hl
      cases h; cases e
      exact ⟨Nat.le_trans hl m_le, rfl⟩
    · cases e
  | .list ds, _, _, h, e => by
    cases e
    obtain ⟨a, vs, rfl, h1, r⟩ := h
    exact .inl ⟨vs, .inl (.inl h1), by rw [r.isEmpty]⟩
  | .tuple ds, _, _, h, e => by
    cases e
    obtain ⟨a, vs, rfl, h1, r⟩ := h
    exact .inr (.inl ⟨vs, h1, by rw [r.isEmpty]⟩)
def bV (f : Ev) : EvB := fun env => (f env).bind fun a => (deref a.2 a.1).bind fun d => (truthD d).map fun b => (b, a.2)
theorem et_truth {e : Expr} {f : Ev} (h : EvE X C e f) (he : ∀ whole, isTrue e X.env whole = (do let v ← whole; standAt e.pos; holding [v] (truthy v)) := by intro _; rfl) : EvT X C e (bV f) :=
  PT.weaken (pt_truth h he) fun σ H Q ⟨U, env, b, env', st, e, q⟩ => by
    simp only [bV, Option.bind_eq_some_iff, Option.map_eq_some_iff] at e
    obtain ⟨⟨ra, e1⟩, hf, d, hd, b', hb, e⟩ := e
    obtain ⟨rfl, rfl⟩ := Prod.mk.inj e
    exact ⟨U, env, ra, e1, st, hf, fun v H1 U1 s1 st1 r1 => ⟨b', truth_ok (deref_ok st1 r1 hd) hb, q H1 U1 s1 st1⟩⟩
/-- a comparison as a test -/
def bE (f : Ev) : EvB := fun env => (f env).bind fun a => match a.1 with
  | .val (.bool b) => some (b, a.2)
  | _ => none
theorem bE_ok {K : PySem.W.Frag} {f : Ev} : ∀ σ H Q, tT K C (bE f) σ H Q → tE K C f σ H fun x H' => ∃ k, x = .bl k ∧ Q k H' := fun σ H Q ⟨U, env, b, env', st, e, q⟩ => by
  simp only [bE, Option.bind_eq_some_iff] at e
  obtain ⟨⟨ra, e1⟩, hf, e⟩ := e
  simp only at e
  split at e
  · obtain ⟨rfl, rfl⟩ := Prod.mk.inj (Option.some.inj e)
    refine ⟨U, env, _, e1, st, hf, fun v H1 U1 s1 st1 r1 => ?_⟩
    cases r1
    exact ⟨_, rfl, q H1 U1 s1 st1⟩
  · cases e
theorem et_cmp {op : CmpOp} {rr : R2} {p : D → D → Option R} (ho : OpR X (compareOp op) rr) (hs : OpS X.K C rr p) {a b : Expr} {f g : Ev} (ha : EvE X C a f) (hb : EvE X C b g) (hm : behindInMarks op b = false := by first | exact nomark _ | rfl) : EvT X C (.Compare a [op] [b] pos) (bE (eOp p f g)) :=
  PT.weaken (pt_cmpR ho ha hb hm) fun σ H Q h => two_ok hs σ H _ (bE_ok σ H Q h)
def bNot (c : EvB) : EvB := fun env => (c env).map fun a => (!a.1, a.2)
theorem et_not {a : Expr} {c : EvB} (h : EvT X C a c) : EvT X C (.UnaryOp .Not a pos) (bNot c) := PT.weaken (pt_not h) fun σ H Q ⟨U, env, b, env', st, e, q⟩ => by
  simp only [bNot, Option.map_eq_some_iff] at e
  obtain ⟨⟨b', e1⟩, hc, e⟩ := e
  obtain ⟨rfl, rfl⟩ := Prod.mk.inj e
  exact ⟨U, env, b', e1, st, hc, q⟩
def bAnd (c d : EvB) : EvB := fun env => (c env).bind fun a => if a.1 = true then d a.2 else some (false, a.2)
def bOr (c d : EvB) : EvB := fun env => (c env).bind fun a => if a.1 = true then some (true, a.2) else d a.2
theorem ew_and1 {a : Expr} {c : EvB} (h : EvT X C a c) : EvW X C (.BoolOp .And [a] pos) c := pw_and1 h
theorem ew_or1 {a : Expr} {c : EvB} (h : EvT X C a c) : EvW X C (.BoolOp .Or [a] pos) c := pw_or1 h
theorem ew_and {a b : Expr} {rest : List Expr} {c d : EvB} (h : EvT X C a c) (k : EvW X C (.BoolOp .And (b :: rest) pos) d) : EvW X C (.BoolOp .And (a :: b :: rest) pos) (bAnd c d) := PW.weaken (pw_and h k) fun σ H Q ⟨U, env, b, env', st, e, q⟩ => by
  simp only [bAnd, Option.bind_eq_some_iff] at e
  obtain ⟨⟨b', e1⟩, hc, e⟩ := e
  refine ⟨U, env, b', e1, st, hc, fun H1 U1 s1 st1 => ?_⟩
  cases b' with
  | true =>
    rw [if_pos rfl] at e ⊢
    exact ⟨U1, e1, b, env', st1, e, fun H2 U2 s2 st2 => q H2 U2 (s1.trans s2) st2⟩
  | false =>
    rw [if_neg Bool.false_ne_true] at e ⊢
    obtain ⟨rfl, rfl⟩ := Prod.mk.inj (Option.some.inj e)
    exact q H1 U1 s1 st1
theorem ew_or {a b : Expr} {rest : List Expr} {c d : EvB} (h : EvT X C a c) (k : EvW X C (.BoolOp .Or (b :: rest) pos) d) : EvW X C (.BoolOp .Or (a :: b :: rest) pos) (bOr c d) := PW.weaken (pw_or h k) fun σ H Q ⟨U, env, b, env', st, e, q⟩ => by
  simp only [bOr, Option.bind_eq_some_iff] at e
  obtain ⟨⟨b', e1⟩, hc, e⟩ := e
  refine ⟨U, env, b', e1, st, hc, fun H1 U1 s1 st1 => ?_⟩
  cases b' with
  | false =>
    rw [if_neg Bool.false_ne_true] at e ⊢
    exact ⟨U1, e1, b, env', st1, e, fun H2 U2 s2 st2 => q H2 U2 (s1.trans s2) st2⟩
  | true =>
    rw [if_pos rfl] at e ⊢
    obtain ⟨rfl, rfl⟩ := Prod.mk.inj (Option.some.inj e)
    exact q H1 U1 s1 st1
/-! ### bools as values -/
def eBl (c : EvB) : Ev := fun env => (c env).map fun a => (.val (.bool a.1), a.2)
def strictB (f : Ev) : Ev := f
def eAnd (f g : Ev) : Ev := fun env => (f env).bind fun a => match a.1 with
  | .val (.bool true) => g a.2
  | .val (.bool false) => some (.val (.bool false), a.2)
  | _ => none
def eOr (f g : Ev) : Ev := fun env => (f env).bind fun a => match a.1 with
  | .val (.bool true) => some (.val (.bool true), a.2)
  | .val (.bool false) => g a.2
  | _ => none
def eNot (f : Ev) : Ev := fun env => (f env).bind fun a => match a.1 with
  | .val (.bool b) => some (.val (.bool (!b)), a.2)
  | _ => none
theorem ev_bo1 {op : BoolOp} {a : Expr} {f : Ev} (h : EvE X C a f) : EvE X C (.BoolOp op [a] pos) f := pe_one h
theorem ev_and {a b : Expr} {rest : List Expr} {f g : Ev} (h : EvE X C a f) (k : EvE X C (.BoolOp .And (b :: rest) pos) g) : EvE X C (.BoolOp .And (a :: b :: rest) pos) (eAnd f g) := PE.weaken (pe_and h k) fun σ H Q ⟨U, env, r, env', st, e, q⟩ => by
  simp only [eAnd, Option.bind_eq_some_iff] at e
  obtain ⟨⟨ra, e1⟩, hf, e⟩ := e
  refine ⟨U, env, ra, e1, st, hf, fun v H1 U1 s1 st1 r1 => ?_⟩
  simp only at e
  split at e
  · cases r1
    exact ⟨true, rfl, by rw [if_pos rfl]; exact ⟨U1, e1, r, env', st1, e, q.stp s1⟩⟩
  · cases r1
    obtain ⟨rfl, rfl⟩ := Prod.mk.inj (Option.some.inj e)
    exact ⟨false, rfl, by rw [if_neg Bool.false_ne_true]; exact pr_val (d := .bool false) st1 rfl (q.stp s1)⟩
  · cases e
theorem ev_or {a b : Expr} {rest : List Expr} {f g : Ev} (h : EvE X C a f) (k : EvE X C (.BoolOp .Or (b :: rest) pos) g) : EvE X C (.BoolOp .Or (a :: b :: rest) pos) (eOr f g) := PE.weaken (pe_or h k) fun σ H Q ⟨U, env, r, env', st, e, q⟩ => by
  simp only [eOr, Option.bind_eq_some_iff] at e
  obtain ⟨⟨ra, e1⟩, hf, e⟩ := e
  refine ⟨U, env, ra, e1, st, hf, fun v H1 U1 s1 st1 r1 => ?_⟩
  simp only at e
  split at e
  · cases r1
    obtain ⟨rfl, rfl⟩ := Prod.mk.inj (Option.some.inj e)
    exact ⟨true, rfl, by rw [if_pos rfl]; exact pr_val (d := .bool true) st1 rfl (q.stp s1)⟩
  · cases r1
    exact ⟨false, rfl, by rw [if_neg Bool.false_ne_true]; exact ⟨U1, e1, r, env', st1, e, q.stp s1⟩⟩
  · cases e
theorem ev_not {a : Expr} {f : Ev} (h : EvE X C a f) : EvE X C (.UnaryOp .Not a pos) (eNot f) := PE.weaken (pe_not h) fun σ H Q ⟨U, env, r, env', st, e, q⟩ => by
  simp only [eNot, Option.bind_eq_some_iff] at e
  obtain ⟨⟨ra, e1⟩, hf, e⟩ := e
  refine ⟨U, env, ra, e1, st, hf, fun v H1 U1 s1 st1 r1 => ?_⟩
  simp only at e
  split at e
  · cases r1
    obtain ⟨rfl, rfl⟩ := Prod.mk.inj (Option.some.inj e)
    exact ⟨_, rfl, pr_val (d := .bool _) st1 rfl (q.stp s1)⟩
  · cases e
def eIf (c : EvB) (f g : Ev) : Ev := fun env => (c env).bind fun a => if a.1 = true then f a.2 else g a.2
theorem ev_if {c a b : Expr} {cc : EvB} {f g : Ev} (hc : EvT X C c cc) (ha : EvE X C a f) (hb : EvE X C b g) : EvE X C (.IfExp c a b pos) (eIf cc f g) := PE.weaken (pe_ifExp hc ha hb) fun σ H Q ⟨U, env, r, env', st, e, q⟩ => by
  simp only [eIf, Option.bind_eq_some_iff] at e
  obtain ⟨⟨b', e1⟩, hf, e⟩ := e
  refine ⟨U, env, b', e1, st, hf, fun H1 U1 s1 st1 => ?_⟩
  cases b' with
  | true =>
    rw [if_pos rfl] at e ⊢
    exact ⟨U1, e1, r, env', st1, e, q.stp s1⟩
  | false =>
    rw [if_neg Bool.false_ne_true] at e ⊢
    exact ⟨U1, e1, r, env', st1, e, q.stp s1⟩
/-- a < b < c -/
def eChain (p p' : D → D → Option R) (f g h : Ev) : Ev := fun env => (f env).bind fun a => (g a.2).bind fun b => (deref b.2 a.1.fz).bind fun x => (deref b.2 b.1.fz).bind fun y => (p x y).bind fun r => match r with
  | .val (.bool true) => (h b.2).bind fun c => (deref c.2 b.1.fz).bind fun y' => (deref c.2 c.1).bind fun w => (p' y' w).map fun r' => (r', c.2)
  | .val (.bool false) => some (.val (.bool false), b.2)
  | _ => none
theorem chain_ok {rr rr' : R2} {p p' : D → D → Option R} (hs : OpS X.K C rr p) (hs' : OpS X.K C rr' p') {f g h : Ev} : ∀ σ H Q, tE X.K C (eChain p p' f g h) σ H Q → tChain rr rr' (tE X.K C f) (tE X.K C g) (tE X.K C h) σ H Q := fun σ H Q ⟨U, env, r, env', st, e, q⟩ => by
  simp only [eChain, Option.bind_eq_some_iff] at e
  obtain ⟨⟨ra, e1⟩, hf, ⟨rb, e2⟩, hg, x, hx, y, hy, r1, hp, e⟩ := e
  refine ⟨U, env, ra, e1, st, hf, fun v H1 U1 s1 st1 q1 => ?_⟩
  obtain ⟨U1', s1', st1', q1'⟩ := fz_ok st1 q1
  refine ⟨U1', e1, rb, e2, st1', hg, fun w H2 U2 s2 st2 q2 => ?_⟩
  obtain ⟨U2', s2', st2', q2'⟩ := fz_ok st2 q2
  have ha := deref_ok st2' (Sm.held (env' := e2) st1' q1' (s2.trans s2')) hx
  have hb := deref_ok st2' q2' hy
  have S2 := ((s1.trans s1').trans s2).trans s2'
  -- the first link at H2 with U2'
  refine hs H2 U2' σ e2 x y v w r1 _ st2' ha hb hp fun z H3 U3 s3 st3 q3 => ?_
  simp only at e
  split at e
  · cases q3
    simp only [Option.bind_eq_some_iff, Option.map_eq_some_iff] at e
    obtain ⟨⟨rc, e4⟩, hh, y', hy', w', hw, r', hp', e⟩ := e
    obtain ⟨rfl, rfl⟩ := Prod.mk.inj e
    refine ⟨true, rfl, ?_⟩
    rw [if_pos rfl]
    refine ⟨U3, e2, rc, e4, st3, hh, fun u H4 U4 s4 st4 q4 => ?_⟩
    have hb' := deref_ok st4 (Sm.held (env' := e4) st2' q2' (s3.trans s4)) hy'
    exact hs' H4 U4 σ e4 y' w' w u r' Q st4 hb' (deref_ok st4 q4 hw) hp' (q.stp ((S2.trans s3).trans s4))
  · cases q3
    obtain ⟨rfl, rfl⟩ := Prod.mk.inj (Option.some.inj e)
    refine ⟨false, rfl, ?_⟩
    rw [if_neg Bool.false_ne_true]
    exact pr_val (d := .bool false) st3 rfl (q.stp (S2.trans s3))
  · cases e
theorem ev_chain {op op' : CmpOp} {rr rr' : R2} {p p' : D → D → Option R} (ho : OpR X (compareOp op) rr) (hs : OpS X.K C rr p) (ho' : OpR X (compareOp op') rr') (hs' : OpS X.K C rr' p') {a b c : Expr} {f g h : Ev} (ha : EvE X C a f) (hb : EvE X C b g) (hc : EvE X C c h)
    (hm : lastMarks [op, op'] [b, c] = false := by with_unfolding_all rfl) : EvE X C (.Compare a [op, op'] [b, c] pos) (eChain p p' f g h) :=
  PE.weaken (pe_chain ho ho' ha hb hc hm) (chain_ok hs hs')
theorem et_chain {op op' : CmpOp} {rr rr' : R2} {p p' : D → D → Option R} (ho : OpR X (compareOp op) rr) (hs : OpS X.K C rr p) (ho' : OpR X (compareOp op') rr') (hs' : OpS X.K C rr' p') {a b c : Expr} {f g h : Ev} (ha : EvE X C a f) (hb : EvE X C b g) (hc : EvE X C c h)
    (hm : lastMarks [op, op'] [b, c] = false := by with_unfolding_all rfl) : EvT X C (.Compare a [op, op'] [b, c] pos) (bE (eChain p p' f g h)) :=
  PT.weaken (pt_chain ho ho' ha hb hc hm) fun σ H Q k => chain_ok hs hs' σ H _ (bE_ok σ H Q k)
end
end Sm
set_option Elab.async false
set_option linter.all false
set_option maxRecDepth 100000
set_option maxHeartbeats 1000000
/-! The layer: statements, targets, loops. -/
namespace Sm
open PySem PySem.Spec PyProof.Rows L2
def Cn.wB (C : Cn) (B : AP) : Cn := { C with B := B }
section
variable {K : PySem.W.Frag} {C : Cn} {H : Hp} {U : AP} {σ : L2.St} {env : Env'}
/-! ### a slot is stored -/
def SlOk (K : PySem.W.Frag) (C : Cn) (H : Hp) (U : AP) (σ : L2.St) (env : Env') (i : Nat) : Sl → V → Prop
  | .no, _ => True
  | .val d, v => Rep K H (Zo C.B U) d v
  | .own p d, v => ∃ a, v = .ref a ∧ U a ∧ OwnAt K H (Zo C.B U) a d ∧ (p = true → a = C.P) ∧ ∀ (j : Nat) (q : Bool) (e : D), j ≠ i → env[j]? = some (Sl.own q e) → σ[j]? ≠ some (some (V.ref a))
  | .scr ns, v => ∃ a, v = .ref a ∧ ScrL K H (Zo C.B U) a (ns.map V.int)
theorem Stt.put (S : Stt K C H U σ env) {i : Nat} {s : Sl} {v : V} (hi : i < env.length) (h : SlOk K C H U σ env i s v) : Stt K C H U (σ.set i (some v)) (env.set i s) := by
  have hσ : i < σ.length := by rw [S.len]; exact hi
  have es : (env.set i s)[i]? = some s := List.getElem?_set_self hi
  have eσ : (σ.set i (some v))[i]? = some (some v) := List.getElem?_set_self hσ
  have en : ∀ j, j ≠ i → (env.set i s)[j]? = env[j]? := fun j hj => List.getElem?_set_ne (Ne.symm hj)
  have eσn : ∀ j, j ≠ i → (σ.set i (some v))[j]? = σ[j]? := fun j hj => List.getElem?_set_ne (Ne.symm hj)
  refine ⟨by simp [S.len], S.dom, S.dis, S.domB, S.tabs, fun j d e => ?_, fun j p d e => ?_, fun j ns e => ?_, fun j k p q d d2 a e1 e2 e3 e4 => ?_⟩
  · by_cases hj : j = i
    · subst hj
      rw [es] at e
      cases e
      exact ⟨v, eσ, h⟩
    · rw [en j hj] at e
      rw [eσn j hj]
      exact S.vals j d e
  · by_cases hj : j = i
    · subst hj
      rw [es] at e
      cases e
      obtain ⟨a, rfl, u, o, q, _⟩ := h
      exact ⟨a, eσ, u, o, q⟩
    · rw [en j hj] at e
      rw [eσn j hj]
      exact S.owns j p d e
  · by_cases hj : j = i
    · subst hj
      rw [es] at e
      cases e
      obtain ⟨a, rfl, q⟩ := h
      exact ⟨a, eσ, q⟩
    · rw [en j hj] at e
      rw [eσn j hj]
      exact S.scrs j ns e
  · by_cases hj : j = i
    · by_cases hk : k = i
      · rw [hj, hk]
      · subst hj
        rw [es] at e1
        cases e1
        obtain ⟨a', rfl, _, _, _, n⟩ := h
        rw [eσ] at e3
        cases e3
        rw [en k hk] at e2
        rw [eσn k hk] at e4
        exact absurd e4 (n k q d2 hk e2)
    · by_cases hk : k = i
      · subst hk
        rw [es] at e2
        cases e2
        obtain ⟨a', rfl, _, _, _, n⟩ := h
        rw [eσ] at e4
        cases e4
        rw [en j hj] at e1
        rw [eσn j hj] at e3
        exact absurd e3 (n j p d hj e1)
      · rw [en j hj] at e1
        rw [en k hk] at e2
        rw [eσn j hj] at e3
        rw [eσn k hk] at e4
        exact S.inj j k p q d d2 a e1 e2 e3 e4
/-- what a slot becomes by a result -/
def stoR (env : Env') : R → Option (Sl × Env')
  | .val d => some (.val d, env)
  | .fr d => some (.own false d, env)
  | .var j => (frz env (.var j)).map fun a => (.val a.1, a.2)
theorem stoR_ok {r : R} {v : V} {s : Sl} {env' : Env'} (S : Stt K C H U σ env) (h : RepR K C H U σ env r v) (e : stoR env r = some (s, env')) (i : Nat) :
    ∃ U', Stp H U H U' ∧ Stt K C H U' σ env' ∧ SlOk K C H U' σ env' i s v := by
  cases r with
  | val d =>
    cases e
    exact ⟨U, .refl, S, h⟩
  | fr d =>
    cases e
    obtain ⟨a, rfl, u, o, n⟩ := h
    exact ⟨U, .refl, S, a, rfl, u, o, (fun z => Bool.noConfusion z), fun j q e _ hj => n j q e hj⟩
  | var j =>
    simp only [stoR, Option.map_eq_some_iff] at e
    obtain ⟨⟨d, e1⟩, hf, e⟩ := e
    obtain ⟨rfl, rfl⟩ := Prod.mk.inj e
    obtain ⟨U', s', S', r'⟩ := frz_ok S h hf
    exact ⟨U', s', S', r'⟩
/-- an owned list is written -/
theorem Stt.mut (S : Stt K C H U σ env) {i : Nat} {p : Bool} {d : D} {a : Addr} {xs ys : List V} {ds : List D} (he : env[i]? = some (Sl.own p d)) (hσ : σ[i]? = some (some (V.ref a))) (hH : H a = some (.lst xs)) (r : Reps K H (Zo C.B U) ds ys) :
    Stp H U (upd H a (.lst ys)) U ∧ Stt K C (upd H a (.lst ys)) U σ (env.set i (.own p (.list ds))) := by
  obtain ⟨a', e1, u, o, hp⟩ := S.owns i p d he
  rw [hσ] at e1
  cases e1
  have hi : i < env.length := lt_of_get he
  have s : Stp H U (upd H a (.lst ys)) U := ⟨fun b o e n _ => by
    rw [upd_ne (fun z => n (by rw [z]; exact u))]
    exact e, fun b u => .inl u, fun b h => by
    by_cases z : b = a
    · rw [z, upd_same]; simp
    · rw [upd_ne z]; exact h⟩
  refine ⟨s, ⟨by simp [S.len], fun b ub => ?_, S.dis, fun b ub => s.there b (S.domB b ub), fun q hq => ?_, fun j d1 e => ?_, fun j p1 d1 e => ?_, fun j ns e => ?_, fun j k p1 q1 d1 d2 b e1 e2 e3 e4 => ?_⟩⟩
  · by_cases z : b = a
    · rw [z]; exact ⟨ys, upd_same⟩
    · rw [upd_ne z]; exact S.dom b ub
  · obtain ⟨ps, e1, e2, e3⟩ := S.tabs q hq
    refine ⟨ps, by rw [upd_ne (ne_of e1 hH (fun z => by cases z))]; exact e1, e2, fun pos cv hc => ?_⟩
    obtain ⟨c, ec, hco⟩ := e3 pos cv hc
    exact ⟨c, ec, by rw [upd_ne (ne_of hco hH (fun z => by unfold LamX.CodeO at z; cases z))]; exact hco⟩
  · by_cases hj : j = i
    · subst hj
      rw [List.getElem?_set_self hi] at e
      cases e
    · rw [List.getElem?_set_ne (Ne.symm hj)] at e
      obtain ⟨v, ev, rv⟩ := S.vals j d1 e
      exact ⟨v, ev, Rep.stp S.dom s _ _ rv⟩
  · by_cases hj : j = i
    · subst hj
      rw [List.getElem?_set_self hi] at e
      cases e
      exact ⟨a, hσ, u, ⟨ys, upd_same, Reps.stp S.dom s _ _ r⟩, hp⟩
    · rw [List.getElem?_set_ne (Ne.symm hj)] at e
      obtain ⟨b, eb, ub, ob, hb⟩ := S.owns j p1 d1 e
      refine ⟨b, eb, ub, ?_, hb⟩
      have nb : b ≠ a := fun z => hj (S.inj j i _ _ _ _ b e he eb (by rw [z]; exact hσ))
      cases d1 with
      | list ds1 =>
        obtain ⟨vs, ev, rv⟩ := ob
        exact ⟨vs, by rw [upd_ne nb]; exact ev, Reps.stp S.dom s _ _ rv⟩
      | _ => exact ob.elim
  · by_cases hj : j = i
    · subst hj
      rw [List.getElem?_set_self hi] at e
      cases e
    · rw [List.getElem?_set_ne (Ne.symm hj)] at e
      obtain ⟨b, eb, rb⟩ := S.scrs j ns e
      exact ⟨b, eb, scrL_stp S.dom s rb⟩
  · have f : ∀ (j : Nat) (p1 : Bool) (d1 : D), (env.set i (.own p (.list ds)))[j]? = some (Sl.own p1 d1) → ∃ p2 d2, env[j]? = some (Sl.own p2 d2) := fun j p1 d1 e => by
      by_cases hj : j = i
      · subst hj; exact ⟨_, _, he⟩
      · rw [List.getElem?_set_ne (Ne.symm hj)] at e
        exact ⟨_, _, e⟩
    obtain ⟨_, _, f1⟩ := f _ _ _ e1
    obtain ⟨_, _, f2⟩ := f _ _ _ e2
    exact S.inj _ _ _ _ _ _ b f1 f2 e3 e4
end

/-! ### statements -/
inductive Fl where
  | nx | ret (d : D) | bk | ct
abbrev Ex := Env' → Option (Fl × Env')
def PX (K : PySem.W.Frag) (C : Cn) (H : Hp) (U : AP) (Dn : Ends) (fl : Fl) (env' : Env') : Prop := ∀ σ' H' U', Stp H U H' U' → Stt K C H' U' σ' env' → match fl with
  | .nx => Dn.nx σ' H'
  | .bk => Dn.bk σ' H'
  | .ct => Dn.ct σ' H'
  | .ret d => ∀ v, Rep K H' (Zo C.B U') d v → Dn.rt v H'
theorem PX.stp {K : PySem.W.Frag} {C : Cn} {H H1 : Hp} {U U1 : AP} {Dn : Ends} {fl : Fl} {env' : Env'} (q : PX K C H U Dn fl env') (s : Stp H U H1 U1) : PX K C H1 U1 Dn fl env' :=
  fun σ' H' U' s' st' => q σ' H' U' (s.trans s') st'
def tX (K : PySem.W.Frag) (C : Cn) (F : Ex) : TS := fun Dn σ H => ∃ U env fl env', Stt K C H U σ env ∧ F env = some (fl, env') ∧ PX K C H U Dn fl env'
def ExS (X : Cx) (C : Cn) (st : Stmt) (F : Ex) : Prop := PS X st (tX X.K C F)
def ExB (X : Cx) (C : Cn) (sts : List Stmt) (F : Ex) : Prop := PSs X sts (tX X.K C F)
section
variable {X : Cx} {C : Cn} {pos : Pos}
def xNx : Ex := fun env => some (.nx, env)
def xSeq (F G : Ex) : Ex := fun env => (F env).bind fun a => match a.1 with
  | .nx => G a.2
  | .ret d => some (.ret d, a.2)
  | .bk => some (.bk, a.2)
  | .ct => some (.ct, a.2)
theorem xb_nil : ExB X C [] xNx := PSs.weaken pss_nil fun Dn σ H ⟨U, env, fl, env', st, e, q⟩ => by
  cases e
  exact q σ H U .refl st
theorem seq_ok {K : PySem.W.Frag} {F G : Ex} : ∀ Dn σ H, tX K C (xSeq F G) Dn σ H → tSeq (tX K C F) (tX K C G) Dn σ H := fun Dn σ H ⟨U, env, fl, env', st, e, q⟩ => by
  simp only [xSeq, Option.bind_eq_some_iff] at e
  obtain ⟨⟨f1, e1⟩, hF, e⟩ := e
  refine ⟨U, env, f1, e1, st, hF, fun σ' H' U' s st' => ?_⟩
  cases f1 with
  | nx => exact ⟨U', e1, fl, env', st', e, q.stp s⟩
  | ret d =>
    obtain ⟨rfl, rfl⟩ := Prod.mk.inj (Option.some.inj e)
    exact q σ' H' U' s st'
  | bk =>
    obtain ⟨rfl, rfl⟩ := Prod.mk.inj (Option.some.inj e)
    exact q σ' H' U' s st'
  | ct =>
    obtain ⟨rfl, rfl⟩ := Prod.mk.inj (Option.some.inj e)
    exact q σ' H' U' s st'
theorem xb_cons {st : Stmt} {rest : List Stmt} {F G : Ex} (h1 : ExS X C st F) (h2 : ExB X C rest G) : ExB X C (st :: rest) (xSeq F G) := PSs.weaken (pss_cons h1 h2) seq_ok
theorem xb_one {st : Stmt} {F : Ex} (h1 : ExS X C st F) : ExB X C [st] F := pss_one h1
def xNone : Ex := fun _ => none
/-- code that is never come to -/
theorem xs_never {st : Stmt} : ExS X C st xNone := PS.weaken ps_never fun Dn σ H ⟨U, env, fl, env', st, e, q⟩ => by cases e
theorem xb_never {sts : List Stmt} : ExB X C sts xNone := PSs.weaken pss_never fun Dn σ H ⟨U, env, fl, env', st, e, q⟩ => by cases e
def xBrk : Ex := fun env => some (.bk, env)
def xCnt : Ex := fun env => some (.ct, env)
theorem xs_pass : ExS X C (.Pass pos) xNx := PS.weaken ps_pass fun Dn σ H ⟨U, env, fl, env', st, e, q⟩ => by
  cases e
  exact q σ H U .refl st
theorem xs_break : ExS X C (.Break pos) xBrk := PS.weaken ps_break fun Dn σ H ⟨U, env, fl, env', st, e, q⟩ => by
  cases e
  exact q σ H U .refl st
theorem xs_continue : ExS X C (.Continue pos) xCnt := PS.weaken ps_continue fun Dn σ H ⟨U, env, fl, env', st, e, q⟩ => by
  cases e
  exact q σ H U .refl st
def xRet (f : Ev) : Ex := fun env => (f env).bind fun a => (frz a.2 a.1).map fun b => (.ret b.1, b.2)
theorem xs_ret {e : Expr} {f : Ev} (h : EvE X C e f) : ExS X C (.Return (some e) pos) (xRet f) := PS.weaken (ps_ret h) fun Dn σ H ⟨U, env, fl, env', st, e, q⟩ => by
  simp only [xRet, Option.bind_eq_some_iff, Option.map_eq_some_iff] at e
  obtain ⟨⟨ra, e1⟩, hf, ⟨d, e2⟩, hd, e⟩ := e
  obtain ⟨rfl, rfl⟩ := Prod.mk.inj e
  refine ⟨U, env, ra, e1, st, hf, fun v H1 U1 s1 st1 r1 => ?_⟩
  obtain ⟨U2, s2, st2, r2⟩ := frz_ok st1 r1 hd
  exact q σ H1 U2 (s1.trans s2) st2 v r2
def xRetN : Ex := fun env => some (.ret .none, env)
theorem xs_retN : ExS X C (.Return none pos) xRetN := PS.weaken ps_retN fun Dn σ H ⟨U, env, fl, env', st, e, q⟩ => by
  cases e
  exact q σ H U .refl st _ rfl
def xEx (f : Ev) : Ex := fun env => (f env).map fun a => (.nx, a.2)
theorem xs_expr {e : Expr} {f : Ev} (h : EvE X C e f) (hs : swapsWith e none pos.line X.env = pure false := by rfl) : ExS X C (.Expr e pos) (xEx f) := PS.weaken (ps_expr h hs) fun Dn σ H ⟨U, env, fl, env', st, e, q⟩ => by
  simp only [xEx, Option.map_eq_some_iff] at e
  obtain ⟨⟨ra, e1⟩, hf, e⟩ := e
  obtain ⟨rfl, rfl⟩ := Prod.mk.inj e
  exact ⟨U, env, ra, e1, st, hf, fun v H1 U1 s1 st1 r1 => q σ H1 U1 s1 st1⟩
def xIf (c : EvB) (F G : Ex) : Ex := fun env => (c env).bind fun a => if a.1 = true then F a.2 else G a.2
theorem xs_if {c : Expr} {a b : List Stmt} {cc : EvB} {F G : Ex} (hc : EvT X C c cc) (ha : ExB X C a F) (hb : ExB X C b G) : ExS X C (.If c a b pos) (xIf cc F G) := PS.weaken (ps_if hc ha hb) fun Dn σ H ⟨U, env, fl, env', st, e, q⟩ => by
  simp only [xIf, Option.bind_eq_some_iff] at e
  obtain ⟨⟨b', e1⟩, hf, e⟩ := e
  refine ⟨U, env, b', e1, st, hf, fun H1 U1 s1 st1 => ?_⟩
  cases b' with
  | true =>
    rw [if_pos rfl] at e ⊢
    exact ⟨U1, e1, fl, env', st1, e, q.stp s1⟩
  | false =>
    rw [if_neg Bool.false_ne_true] at e ⊢
    exact ⟨U1, e1, fl, env', st1, e, q.stp s1⟩
/-- name = e -/
def xSet (i : Nat) (f : Ev) : Ex := fun env => (f env).bind fun a => (stoR a.2 a.1).bind fun b => if i < b.2.length then some (.nx, b.2.set i b.1) else none
theorem set_ok {K : PySem.W.Frag} {i : Nat} {f : Ev} : ∀ Dn σ H, tX K C (xSet i f) Dn σ H → tAsg (tE K C f) (gName i) Dn σ H := fun Dn σ H ⟨U, env, fl, env', st, e, q⟩ => by
  simp only [xSet, Option.bind_eq_some_iff] at e
  obtain ⟨⟨ra, e1⟩, hf, ⟨sl, e2⟩, hs, e⟩ := e
  split at e
  · rename_i hi
    obtain ⟨rfl, rfl⟩ := Prod.mk.inj (Option.some.inj e)
    refine ⟨U, env, ra, e1, st, hf, fun v H1 U1 s1 st1 r1 => ?_⟩
    obtain ⟨U2, s2, st2, k2⟩ := stoR_ok st1 r1 hs i
    exact q _ H1 U2 (s1.trans s2) (st2.put hi k2)
  · cases e
theorem xs_set {i : Nat} {x : Str} {e : Expr} {f : Ev} {pos' : Pos} (hN : X.N.Nodup) (hi : X.N[i]? = some x) (hx : Loc X.env.scope x) (he : EvE X C e f) (hs : swapsWith e (some (.Name x pos')) pos.line X.env = pure false := by rfl) (hf : X.fn x = true ∨ X.env.scope.names.lookup x = some .local := by first | exact .inl rfl | exact .inr rfl | assumption) :
    ExS X C (.Assign [.Name x pos'] e pos) (xSet i f) := PS.weaken (ps_set hN hi hx he hs hf) set_ok

/-! ### targets -/
def Agr (ts : List Nat) (σ σ' : L2.St) : Prop := σ'.length = σ.length ∧ ∀ j, j ∉ ts → σ'[j]? = σ[j]?
theorem Agr.refl {σ : L2.St} : Agr [] σ σ := ⟨rfl, fun _ _ => rfl⟩
theorem Agr.trans {ts us : List Nat} {σ σ1 σ2 : L2.St} (a : Agr ts σ σ1) (b : Agr us σ1 σ2) : Agr (ts ++ us) σ σ2 :=
  ⟨b.1.trans a.1, fun j hj => (b.2 j (fun z => hj (List.mem_append_right _ z))).trans (a.2 j (fun z => hj (List.mem_append_left _ z)))⟩
abbrev Tg := D → Env' → Option Env'
abbrev Tgs := List D → Env' → Option Env'
def tG (K : PySem.W.Frag) (C : Cn) (ts : List Nat) (g : Tg) : TG := fun v σ H Q => ∃ U env d env', Stt K C H U σ env ∧ Rep K H (Zo C.B U) d v ∧ g d env = some env' ∧ ∀ σ' H' U', Agr ts σ σ' → Stp H U H' U' → Stt K C H' U' σ' env' → Q σ' H'
def tGs (K : PySem.W.Frag) (C : Cn) (ts : List Nat) (g : Tgs) : TGs := fun vs σ H Q => ∃ U env ds env', Stt K C H U σ env ∧ Reps K H (Zo C.B U) ds vs ∧ g ds env = some env' ∧ ∀ σ' H' U', Agr ts σ σ' → Stp H U H' U' → Stt K C H' U' σ' env' → Q σ' H'
def EvG (X : Cx) (C : Cn) (tg : Expr) (ts : List Nat) (g : Tg) : Prop := PG X tg (tG X.K C ts g)
def EvGs (X : Cx) (C : Cn) (tgs : List Expr) (ts : List Nat) (g : Tgs) : Prop := PGs X tgs (tGs X.K C ts g)
theorem PG.weaken {X : Cx} {tg : Expr} {t t' : TG} (h : PG X tg t) (k : ∀ v σ H Q, t' v σ H Q → t v σ H Q) : PG X tg t' := ⟨fun pins s σ H v u Q I r q => h.run pins s σ H v u Q I r (k v σ H Q q)⟩
theorem PGs.weaken {X : Cx} {tg : List Expr} {t t' : TGs} (h : PGs X tg t) (k : ∀ v σ H Q, t' v σ H Q → t v σ H Q) : PGs X tg t' := ⟨fun pins s σ H v u Q I r q => h.run pins s σ H v u Q I r (k v σ H Q q)⟩
def gN (i : Nat) : Tg := fun d env => if i < env.length then some (env.set i (.val d)) else none
theorem eg_name {i : Nat} {x : Str} (hN : X.N.Nodup) (hi : X.N[i]? = some x) (hx : Loc X.env.scope x) (hf : X.fn x = true ∨ X.env.scope.names.lookup x = some .local := by first | exact .inl rfl | exact .inr rfl | assumption) : EvG X C (.Name x pos) [i] (gN i) :=
  PG.weaken (pg_name hN hi hx hf) fun v σ H Q ⟨U, env, d, env', st, r, e, q⟩ => by
    unfold gN at e
    split at e
    · rename_i h
      cases e
      refine q _ H U ⟨by simp, fun j hj => ?_⟩ .refl (st.put h r)
      exact List.getElem?_set_ne (fun z => hj (by simp [z]))
    · cases e
def gNil : Tgs := fun ds env => match ds with
  | [] => some env
  | _ => none
def gCons (g : Tg) (gs : Tgs) : Tgs := fun ds env => match ds with
  | [] => none
  | d :: r => (g d env).bind fun e => gs r e
theorem egs_nil : EvGs X C [] [] gNil := PGs.weaken pgs_nil fun vs σ H Q ⟨U, env, ds, env', st, r, e, q⟩ => by
  unfold gNil at e
  split at e
  · cases e
    cases r
    exact ⟨rfl, q σ H U .refl .refl st⟩
  · cases e
theorem egs_cons {e : Expr} {es : List Expr} {ts us : List Nat} {g : Tg} {gs : Tgs} (h1 : EvG X C e ts g) (h2 : EvGs X C es us gs)
    (hs : (assignEach (e :: es) X.env).map (·.2) = assign e X.env :: (assignEach es X.env).map (·.2) := by rfl) : EvGs X C (e :: es) (ts ++ us) (gCons g gs) :=
  PGs.weaken (pgs_cons h1 h2 hs) fun vs σ H Q ⟨U, env, ds, env', st, r, e, q⟩ => by
    unfold gCons at e
    split at e
    · cases e
    · rename_i d ds'
      rw [Option.bind_eq_some_iff] at e
      obtain ⟨e1, hg, e⟩ := e
      obtain ⟨v, t, rfl, r1, r2⟩ := r
      refine ⟨v, t, rfl, U, env, d, e1, st, r1, hg, fun σ1 H1 U1 a1 s1 st1 => ?_⟩
      exact ⟨U1, e1, ds', env', st1, Reps.stp st.dom s1 _ _ r2, e, fun σ2 H2 U2 a2 s2 st2 => q σ2 H2 U2 (a1.trans a2) (s1.trans s2) st2⟩
def gT (n : Nat) (gs : Tgs) : Tg := fun d env => match d with
  | .tuple ds => if ds.length = n then gs ds env else none
  | _ => none
theorem eg_tup {es : List Expr} {k n : Nat} {ts : List Nat} {gs : Tgs} (hc : X.calm = true) (h : EvGs X C es ts gs)
    (hn : (assignEach es X.env).length = n := by rfl) (hst : (assignEach es X.env).findIdx? (·.1) = none := by rfl) : EvG X C (.Tuple es k pos) ts (gT n gs) :=
  PG.weaken (pg_tup hc h hn hst) fun v σ H Q ⟨U, env, d, env', st, r, e, q⟩ => by
    unfold gT at e
    split at e
    · split at e
      · rename_i hl
        obtain ⟨a, vs, rfl, h1, r1⟩ := r
        exact ⟨a, vs, rfl, h1, by rw [r1.length]; exact hl, U, env, _, env', st, r1, e, q⟩
      · cases e
    · cases e
/-- x[e] = d of a list that x owns -/
def gIx (i : Nat) (fi : Ev) : Tg := fun d env => match env[i]? with
  | some (.own _ _) => (fi env).bind fun a => match a.1 with
    | .val (.int k) => match a.2[i]? with
      | some (.own p (.list ds)) => (ixN ds.length k).map fun j => a.2.set i (.own p (.list (ds.set j d)))
      | _ => none
    | _ => none
  | _ => none
theorem eg_ix {i : Nat} {x : Str} {p1 : Pos} {ix : Expr} {fi : Ev} (ho : PE X (.Name x p1) (tVar i)) (hi : EvE X C ix fi)
    (ha : ∀ v, assign (.Subscript (.Name x p1) ix pos) X.env v = (do
      let ov ← holding [v] (eval (.Name x p1) X.env)
      let iv ← holding [v, ov] (eval ix X.env)
      standAt pos
      holding [v, ov, iv] (setItem ov iv v)
      release [v, ov, iv] []) := by intro _; rfl) : EvG X C (.Subscript (.Name x p1) ix pos) [] (gIx i fi) :=
  PG.weaken (pg_sub ho hi set_list ha) fun v σ H Q ⟨U, env, d, env', st, r, e, q⟩ => by
    unfold gIx at e
    split at e
    · rename_i p0 d0 h0
      obtain ⟨a, ea, _⟩ := st.owns i p0 d0 h0
      rw [Option.bind_eq_some_iff] at e
      obtain ⟨⟨ra, e1⟩, hf, e⟩ := e
      simp only at e
      split at e
      · rename_i k
        split at e
        · rename_i p ds hds
          rw [Option.map_eq_some_iff] at e
          obtain ⟨j, hj, rfl⟩ := e
          refine ⟨_, ea, U, env, _, e1, st, hf, fun w H1 U1 s1 st1 r1 => ?_⟩
          cases r1
          obtain ⟨a', e2, u, ⟨vs, hv, rv⟩, _⟩ := st1.owns i p _ hds
          rw [ea] at e2
          cases e2
          have rv' := rv.set j (Rep.stp st.dom s1 _ _ r)
          obtain ⟨s2, st2⟩ := st1.mut hds ea hv rv'
          exact ⟨a, vs, k, j, rfl, rfl, hv, by rw [rv.length]; exact hj, q σ _ U1 .refl (s1.trans s2) st2⟩
        · cases e
      · cases e
    · cases e
end
end Sm
set_option Elab.async false
set_option linter.all false
set_option maxRecDepth 100000
set_option maxHeartbeats 1000000
/-! The layer: assignments to targets, several at once, op=; methods of lists; what is walked; for, while, comprehensions. -/
namespace Sm
open PySem PySem.Spec PyProof.Rows L2
section
variable {X : Cx} {C : Cn} {pos : Pos}
/-- target = e -/
def xAsg (g : Tg) (f : Ev) : Ex := fun env => (f env).bind fun a => (frz a.2 a.1).bind fun b => (g b.1 b.2).map fun c => (.nx, c)
theorem xs_asg {tg e : Expr} {ts : List Nat} {f : Ev} {g : Tg} (he : EvE X C e f) (hg : EvG X C tg ts g) (hs : swapsWithSole [tg] e pos.line X.env = pure false := by rfl) (hw : swappedStores [tg] e X.env = pure none := by rfl)
    (h1 : (assignEach [tg] X.env).map (·.2) = [assign tg X.env] := by rfl) : ExS X C (.Assign [tg] e pos) (xAsg g f) := PS.weaken (ps_asg he hg hs hw h1) fun Dn σ H ⟨U, env, fl, env', st, e, q⟩ => by
  simp only [xAsg, Option.bind_eq_some_iff, Option.map_eq_some_iff] at e
  obtain ⟨⟨ra, e1⟩, hf, ⟨d, e2⟩, hd, e3, hg', e⟩ := e
  obtain ⟨rfl, rfl⟩ := Prod.mk.inj e
  refine ⟨U, env, ra, e1, st, hf, fun v H1 U1 s1 st1 r1 => ?_⟩
  obtain ⟨U2, s2, st2, r2⟩ := frz_ok st1 r1 hd
  exact ⟨U2, e2, d, e3, st2, r2, hg', fun σ' H' U' _ s3 st3 => q σ' H' U' ((s1.trans s2).trans s3) st3⟩
/-- a, b = e, f: two local names, each may own what comes -/
def xPar (i j : Nat) (f g : Ev) : Ex := fun env => (f env).bind fun a => (stoR a.2 a.1).bind fun s => (g s.2).bind fun b => (stoR b.2 b.1).bind fun t =>
  if i ≠ j ∧ i < t.2.length ∧ j < t.2.length then some (.nx, (t.2.set i s.1).set j t.1) else none
theorem PE.exB {X : Cx} {e : Expr} {ι : Type} {t : ι → TE} (h : ∀ i, PE X e (t i)) : PE X e (fun σ H Q => ∃ i, t i σ H Q) := ⟨fun pins s σ H Q I ⟨i, q⟩ => (h i).run pins s σ H Q I q⟩
/-- what a slot is to own is kept apart -/
theorem Stt.apart {K : PySem.W.Frag} {H : Hp} {U : AP} {σ : L2.St} {env : Env'} (S : Stt K C H U σ env) {a : Addr} (ua : U a) (n : ∀ (i : Nat) (p : Bool) (e : D), env[i]? = some (Sl.own p e) → σ[i]? ≠ some (some (V.ref a))) :
    Stt K (C.wB fun b => C.B b ∨ b = a) H (fun b => U b ∧ b ≠ a) σ env := by
  have hz : ∀ b, Zo (fun b => C.B b ∨ b = a) (fun b => U b ∧ b ≠ a) b → Zo C.B U b := fun b z => by
    rcases z with z | z | z
    · exact .inl z.1
    · exact .inr z
    · exact .inl (by rw [z]; exact ua)
  refine ⟨S.len, fun b u => S.dom b u.1, fun b u z => ?_, fun b z => ?_, S.tabs, fun i d e => ?_, fun i p d e => ?_, fun i ns e => (let ⟨b, e1, r⟩ := S.scrs i ns e; ⟨b, e1, r.mono hz⟩), S.inj⟩
  · rcases z with z | z
    · exact S.dis b u.1 z
    · exact u.2 z
  · rcases z with z | z
    · exact S.domB b z
    · obtain ⟨vs, e⟩ := S.dom a ua
      rw [z, e]; simp
  · obtain ⟨v, e1, r⟩ := S.vals i d e
    exact ⟨v, e1, Rep.mono hz _ _ r⟩
  · obtain ⟨b, e1, u, o, q⟩ := S.owns i p d e
    exact ⟨b, e1, ⟨u, fun z => n i p d e (by rw [e1, z])⟩, o.mono hz, q⟩
/-- and comes back -/
theorem Stt.back {K : PySem.W.Frag} {H : Hp} {U : AP} {σ : L2.St} {env : Env'} {a : Addr} (S : Stt K (C.wB fun b => C.B b ∨ b = a) H U σ env) (nB : ¬ C.B a) (ha : ∃ vs, H a = some (.lst vs)) :
    Stt K C H (fun b => U b ∨ b = a) σ env := by
  have hz : ∀ b, Zo C.B (fun b => U b ∨ b = a) b → Zo (fun b => C.B b ∨ b = a) U b := fun b z => by
    rcases z with (z | z) | z
    · exact .inl z
    · exact .inr (.inr z)
    · exact .inr (.inl z)
  refine ⟨S.len, fun b u => ?_, fun b u z => ?_, fun b z => S.domB b (.inl z), S.tabs, fun i d e => ?_, fun i p d e => ?_, fun i ns e => (let ⟨b, e1, r⟩ := S.scrs i ns e; ⟨b, e1, r.mono hz⟩), S.inj⟩
  · rcases u with u | u
    · exact S.dom b u
    · rw [u]; exact ha
  · rcases u with u | u
    · exact S.dis b u (.inl z)
    · rw [u] at z; exact nB z
  · obtain ⟨v, e1, r⟩ := S.vals i d e
    exact ⟨v, e1, Rep.mono hz _ _ r⟩
  · obtain ⟨b, e1, u, o, q⟩ := S.owns i p d e
    exact ⟨b, e1, .inl u, o.mono hz, q⟩
theorem stoR_cases {env env' : Env'} {r : R} {s : Sl} (e : stoR env r = some (s, env')) : (∃ d, s = .val d) ∨ ∃ d, r = .fr d ∧ s = .own false d ∧ env' = env := by
  cases r with
  | val d => cases e; exact .inl ⟨d, rfl⟩
  | fr d => cases e; exact .inr ⟨d, rfl, rfl, rfl⟩
  | var j =>
    simp only [stoR, Option.map_eq_some_iff] at e
    obtain ⟨⟨d, e1⟩, hf, e⟩ := e
    obtain ⟨rfl, rfl⟩ := Prod.mk.inj e
    exact .inl ⟨d, rfl⟩
theorem slOk_after {K : PySem.W.Frag} {H : Hp} {U : AP} {σ : L2.St} {env : Env'} {i j : Nat} {s sl : Sl} {v w : V} (hi : i < env.length) (hl : σ.length = env.length) (k : SlOk K C H U σ env j sl w) (n : ∀ a, w = .ref a → (∃ p d, sl = .own p d) → (∃ p d, s = .own p d) → v ≠ .ref a) :
    SlOk K C H U (σ.set i (some v)) (env.set i s) j sl w := by
  cases sl with
  | val d' => exact k
  | no => trivial
  | scr ns => exact k
  | own p' d' =>
    obtain ⟨a', rfl, u', o', hp', n'⟩ := k
    refine ⟨a', rfl, u', o', hp', fun m q' e' hm he => ?_⟩
    by_cases hmi : m = i
    · subst hmi
      rw [List.getElem?_set_self hi] at he
      rw [List.getElem?_set_self (by rw [hl]; exact hi)]
      cases he
      intro z
      have z' : v = .ref a' := Option.some.inj (Option.some.inj z)
      exact n a' rfl ⟨_, _, rfl⟩ ⟨_, _, rfl⟩ z'
    · rw [List.getElem?_set_ne (Ne.symm hmi)] at he
      rw [List.getElem?_set_ne (Ne.symm hmi)]
      exact n' m q' e' hm he
theorem xs_par {i j : Nat} {x y : Str} {a b : Expr} {f g : Ev} {px py pt : Pos} {kt k2 pt2} (hc : X.calm = true) (hN : X.N.Nodup) (hi : X.N[i]? = some x) (hj : X.N[j]? = some y) (hij : i ≠ j)
    (hx : X.env.scope.names.lookup x = some .local) (hy : X.env.scope.names.lookup y = some .local) (ha : EvE X C a f) (hb : ∀ B, EvE X (C.wB B) b g)
    (hw : swappedStores [.Tuple [.Name x px, .Name y py] kt pt] (.Tuple [a, b] k2 pt2) X.env = pure (some [x, y]) := by rfl)
    (hs : swapsWithSole [.Tuple [.Name x px, .Name y py] kt pt] (.Tuple [a, b] k2 pt2) pos.line X.env = pure false := by rfl)
    (n1 : starEach [a, b] X.env = (false, eval a X.env) :: starEach [b] X.env := by rfl) (n2 : starEach [b] X.env = (false, eval b X.env) :: starEach [] X.env := by rfl) :
    ExS X C (.Assign [.Tuple [.Name x px, .Name y py] kt pt] (.Tuple [a, b] k2 pt2) pos) (xPar i j f g) :=
  PS.weaken (ps_par hc hN hi hj hij hx hy (pa_cons ha (pa_cons (PE.exB hb) pa_nil n2) n1) hw hs) fun Dn σ H ⟨U, env, fl, env', st, e, q⟩ => by
    simp only [xPar, Option.bind_eq_some_iff] at e
    obtain ⟨⟨ra, e1⟩, hf, ⟨sa, e2⟩, hsa, ⟨rb, e3⟩, hg, ⟨sb, e4⟩, hsb, e⟩ := e
    split at e
    · rename_i hij'
      obtain ⟨rfl, rfl⟩ := Prod.mk.inj (Option.some.inj e)
      refine ⟨U, env, ra, e1, st, hf, fun v H1 U1 s1 st1 r1 => ?_⟩
      rcases stoR_cases hsa with ⟨d, rfl⟩ | ⟨d, rfl, rfl, rfl⟩
      · obtain ⟨U2, s2, st2, k2⟩ := stoR_ok st1 r1 hsa i
        refine ⟨C.B, U2, e2, rb, e3, st2, hg, fun w H3 U3 s3 st3 r3 => ?_⟩
        obtain ⟨U4, s4, st4, k4⟩ := stoR_ok st3 r3 hsb j
        have k2' : Rep X.K H3 (Zo C.B U4) d v := Rep.stp st2.dom (s3.trans s4) _ _ k2
        have st4' : Stt X.K C H3 U4 σ e4 := st4
        have p1 := st4'.put (i := i) (s := .val d) hij'.2.1 k2'
        have k4' : SlOk X.K C H3 U4 σ e4 j sb w := k4
        have p2 := p1.put (i := j) (s := sb) (v := w) (by rw [List.length_set]; exact hij'.2.2) (slOk_after hij'.2.1 st4'.len k4' (fun a _ _ z => by obtain ⟨_, _, z⟩ := z; cases z))
        exact ⟨v, w, rfl, q _ H3 U4 (((s1.trans s2).trans s3).trans s4) p2⟩
      · obtain ⟨a', rfl, ua, oa, na⟩ := r1
        have st2' := st1.apart (C := C) ua na
        refine ⟨(fun b => C.B b ∨ b = a'), fun b => U1 b ∧ b ≠ a', e2, rb, e3, st2', hg, fun w H3 U3 s3 st3 r3 => ?_⟩
        obtain ⟨U4, s4, st4, k4⟩ := stoR_ok st3 r3 hsb j
        obtain ⟨vs, ev⟩ := st1.dom a' ua
        have ev3 : H3 a' = some (.lst vs) := s3.keep _ _ ev (fun z => z.2 rfl) (fun ps z => by cases z)
        have nB : ¬ C.B a' := st1.dis a' ua
        have st5 := st4.back (C := C) nB ⟨vs, ev3⟩
        have s24 := s3.trans s4
        have s5 : Stp H U H3 (fun b => U4 b ∨ b = a') := by
          refine s1.trans (U1 := U1) ⟨fun b o eb nb tb => ?_, fun b u => ?_, fun b hb => s24.there b hb⟩
          · exact s24.keep b o eb (fun z => nb z.1) tb
          · rcases u with u | u
            · rcases s24.own b u with z | z
              · exact .inl z.1
              · exact .inr z
            · exact .inl (by rw [u]; exact ua)
        have z5 : ∀ b, Zo C.B (fun b => U4 b ∨ b = a') b → Zo (fun b => C.B b ∨ b = a') U4 b := fun b z => by
          rcases z with (z | z) | z
          · exact .inl z
          · exact .inr (.inr z)
          · exact .inr (.inl z)
        have z0 : ∀ b, Zo (fun b => C.B b ∨ b = a') (fun b => U1 b ∧ b ≠ a') b → Zo C.B U1 b := fun b z => by
          rcases z with z | z | z
          · exact .inl z.1
          · exact .inr z
          · exact .inl (by rw [z]; exact ua)
        have nU4 : ¬ U4 a' := fun z => st4.dis a' z (.inr rfl)
        have k1 : SlOk X.K C H3 (fun b => U4 b ∨ b = a') σ e4 i (.own false d) (.ref a') := by
          refine ⟨a', rfl, .inr rfl, ?_, (fun z => Bool.noConfusion z), fun m q' e' hm he z => ?_⟩
          · cases d with
            | list ds =>
              obtain ⟨ws, e6, r6⟩ := oa
              rw [ev] at e6
              cases e6
              exact ⟨vs, ev3, Reps.mono z5 _ _ (Reps.stp st2'.dom s24 _ _ (Reps.mono z0 _ _ r6))⟩
            | _ => exact oa.elim
          · obtain ⟨b, e7, u7, _⟩ := st4.owns m q' e' he
            rw [z] at e7
            cases e7
            exact nU4 u7
        have p1 := st5.put (i := i) hij'.2.1 k1
        have k4' : SlOk X.K C H3 (fun b => U4 b ∨ b = a') σ e4 j sb w := by
          cases sb with
          | val d' => exact Rep.mono z5 _ _ k4
          | no => trivial
          | scr ns => exact (let ⟨b, e1, r⟩ := k4; ⟨b, e1, r.mono z5⟩)
          | own p' d' =>
            obtain ⟨b', rfl, u', o', hp', n'⟩ := k4
            exact ⟨b', rfl, .inl u', o'.mono z5, hp', n'⟩
        have p2 := p1.put (i := j) (s := sb) (v := w) (by rw [List.length_set]; exact hij'.2.2) (slOk_after hij'.2.1 st5.len k4' (fun b hb ho _ z => by
          obtain ⟨p', d', rfl⟩ := ho
          obtain ⟨b', rfl, u', _⟩ := k4
          cases hb
          cases z
          exact nU4 u'))
        exact ⟨_, w, rfl, q _ H3 _ s5 p2⟩
    · cases e
end
end Sm
set_option Elab.async false
set_option linter.all false
set_option maxRecDepth 100000
set_option maxHeartbeats 1000000
/-! The layer: op=, methods of lists, what is walked, for, while, comprehensions. -/
namespace Sm
open PySem PySem.Spec PyProof.Rows L2
section
variable {X : Cx} {C : Cn} {pos : Pos}
/-! ### name op= e, of ints -/
def xAug (i : Nat) (h : Int → Int → Int) (f : Ev) : Ex := fun env => match env[i]? with
  | some (.val (.int a)) => (f env).bind fun r => match r.1 with
    | .val (.int b) => if i < r.2.length then some (.nx, r.2.set i (.val (.int (h a b)))) else none
    | _ => none
  | _ => none
theorem xs_aug {i : Nat} {x : Str} {e : Expr} {f : Ev} {op : Operator} {h : Int → Int → Int} {pos' : Pos} (hN : X.N.Nodup) (hi : X.N[i]? = some x) (hx : Loc X.env.scope x) (he : EvE X C e f) (ho : PIp X op (ipI h)) (hf : X.fn x = true ∨ X.env.scope.names.lookup x = some .local := by first | exact .inl rfl | exact .inr rfl | assumption) :
    ExS X C (.AugAssign (.Name x pos') op e pos) (xAug i h f) := PS.weaken (ps_aug hN hi hx he ho hf) fun Dn σ H ⟨U, env, fl, env', st, e, q⟩ => by
  unfold xAug at e
  split at e
  · rename_i a ha
    obtain ⟨v, ev, rv⟩ := st.vals i _ ha
    cases rv
    rw [Option.bind_eq_some_iff] at e
    obtain ⟨⟨ra, e1⟩, hf', e⟩ := e
    simp only at e
    split at e
    · rename_i b
      split at e
      · rename_i hl
        obtain ⟨rfl, rfl⟩ := Prod.mk.inj (Option.some.inj e)
        refine ⟨_, ev, U, env, _, e1, st, hf', fun w H1 U1 s1 st1 r1 => ?_⟩
        cases r1
        exact ⟨a, b, rfl, rfl, q _ H1 U1 s1 (st1.put (s := .val (.int (h a b))) hl rfl)⟩
      · cases e
    · cases e
  · cases e
/-! ### x[k] op= e, of ints in a list that x owns -/
def rGetL (K : PySem.W.Frag) : V → V → Hp → VK → Prop := fun o i H Q => ∃ p xs k v, o = .ref p ∧ i = .int k ∧ SqL K H p xs ∧ atI xs k = some v ∧ Q v H
theorem get_list : PGet X (rGetL X.K) := by
  intro pins s σ H o i ov iv Q I ro ri h
  obtain ⟨p, xs, k, z, rfl, rfl, hq, he, q⟩ := h
  cases ro
  obtain ⟨t, rfl⟩ := ri
  obtain ⟨its, r, pl, hz⟩ := I.list hq
  obtain ⟨j, h1, h2, h3, h4, h5⟩ := atI_get he
  obtain ⟨w, ew, rw'⟩ := r.get h2
  have hl := r.length
  have hn := line63
  have fin : EP X pins σ Q w s := ⟨z, H, I, rw', q⟩
  by_cases h0 : 0 ≤ k
  · have hj : k.toNat = j := by
      rw [seqIndex_of h0 h5] at h1
      exact Option.some.inj h1
    exact wpAny_getItem_list pl.isList h0 (by omega) (by rw [hj]; simpa using ew) fin
  · have hj : (k + (its.toArray.size : Int)).toNat = j := by
      rw [seqIndex_neg (by omega) h4] at h1
      rw [List.size_toArray, ← hl]
      exact Option.some.inj h1
    exact wpAny_getItem_list_neg pl.isList (by omega) (by rw [List.size_toArray] <;> omega) (by omega) (by rw [hj]; simpa using ew) fin
def xAugIx (i : Nat) (fi : Ev) (h : Int → Int → Int) (f : Ev) : Ex := fun env => match env[i]? with
  | some (.own _ _) => (fi env).bind fun r => match r.1 with
    | .val (.int k) => match r.2[i]? with
      | some (.own _ (.list ds)) => match atI ds k with
        | some (.int a) => (f r.2).bind fun s => match s.1 with
          | .val (.int b) => match s.2[i]? with
            | some (.own p (.list es)) => (ixN es.length k).map fun j => (.nx, s.2.set i (.own p (.list (es.set j (.int (h a b))))))
            | _ => none
          | _ => none
        | _ => none
      | _ => none
    | _ => none
  | _ => none
theorem xs_augIx {i : Nat} {x : Str} {p1 tpos : Pos} {ix e : Expr} {fi f : Ev} {op : Operator} {h : Int → Int → Int} (ho : PE X (.Name x p1) (tVar i)) (hi : EvE X C ix fi) (he : EvE X C e f) (hp : PIp X op (ipI h))
    (ha : ∀ ov iv new, augStore ix ov iv new = (do holding [new, ov, iv] (setItem ov iv new); release [new, ov, iv] []; pure .next) := by intros; rfl) : ExS X C (.AugAssign (.Subscript (.Name x p1) ix tpos) op e pos) (xAugIx i fi h f) :=
  PS.weaken (ps_augS ho hi get_list he hp set_list ha) fun Dn σ H ⟨U, env, fl, env', st, e, q⟩ => by
    unfold xAugIx at e
    split at e
    · rename_i p0 d0 h0
      obtain ⟨a0, ea, _⟩ := st.owns i p0 d0 h0
      rw [Option.bind_eq_some_iff] at e
      obtain ⟨⟨ra, e1⟩, hf, e⟩ := e
      simp only at e
      split at e
      · rename_i k
        split at e
        · rename_i p ds hds
          split at e
          · rename_i a hat
            rw [Option.bind_eq_some_iff] at e
            obtain ⟨⟨rb, e2⟩, hf2, e⟩ := e
            simp only at e
            split at e
            · rename_i b
              split at e
              · rename_i p' es hes
                rw [Option.map_eq_some_iff] at e
                obtain ⟨j, hj, e⟩ := e
                obtain ⟨rfl, rfl⟩ := Prod.mk.inj e
                refine ⟨_, ea, U, env, _, e1, st, hf, fun w H1 U1 s1 st1 r1 => ?_⟩
                cases r1
                obtain ⟨a', e3, u, ⟨vs, hv, rv⟩, _⟩ := st1.owns i _ _ hds
                rw [ea] at e3
                cases e3
                obtain ⟨z, hz, rz⟩ := rv.atI hat
                cases rz
                refine ⟨a0, vs, k, _, rfl, rfl, .inl (.inl hv), hz, U1, e1, _, e2, st1, hf2, fun w2 H2 U2 s2 st2 r2 => ?_⟩
                cases r2
                obtain ⟨a', e3, u2, ⟨vs2, hv2, rv2⟩, _⟩ := st2.owns i _ _ hes
                rw [ea] at e3
                cases e3
                obtain ⟨s3, st3⟩ := st2.mut hes ea hv2 (rv2.set j (d := .int (h a b)) (v := .int (h a b)) rfl)
                exact ⟨a, b, rfl, rfl, a0, vs2, k, j, rfl, rfl, hv2, by rw [rv2.length]; exact hj, q σ _ U2 ((s1.trans s2).trans s3) st3⟩
              · cases e
            · cases e
          · cases e
        · cases e
      · cases e
    · cases e
/-! ### methods of a list that a name owns -/
def eMeth (i : Nat) (pm : List D → List D → Option (D × List D)) (a : EvA) : Ev := fun env => match env[i]? with
  | some (.own _ _) => (a env).bind fun b => (frzL b.2 b.1).bind fun c => match c.2[i]? with
    | some (.own p (.list ds)) => (pm ds c.1).map fun r => (.val r.1, c.2.set i (.own p (.list r.2)))
    | _ => none
  | _ => none
def MeS (K : PySem.W.Frag) (rr : V → List V → Hp → VK → Prop) (pm : List D → List D → Option (D × List D)) : Prop :=
  ∀ (H : Hp) (Z : AP) (a : Addr) (vs ws : List V) (ds es : List D) (r : D) (ds' : List D) (Q : VK), H a = some (.lst vs) → Reps K H Z ds vs → Reps K H Z es ws → pm ds es = some (r, ds') →
    ∃ v vs', Rep K H Z r v ∧ Reps K H Z ds' vs' ∧ (Q v (upd H a (.lst vs')) → rr (.ref a) ws H Q)
theorem ev_meth {name id : String} {x : Str} {i : Nat} {rr : V → List V → Hp → VK → Prop} {pm : List D → List D → Option (D × List D)} {e : Expr} {es : List Expr} {p1 apos cpos : Pos} {f : EvA}
    (pa : PlainAttrs "list") (slot : Slot "list" name id) (hty : typeOf (.builtin id) = pure (.type "method_descriptor")) (hm : MtR X id rr) (hs : MeS X.K rr pm) (ho : PE X (.Name x p1) (tVar i)) (ha : EvAs X C (e :: es) f)
    (hpe : ∀ t, PA X (e :: es) t → PE X (.Call (.Attribute (.Name x p1) name apos) (e :: es) [] cpos) (tBM X.K "list" rr (tVar i) t)) :
    EvE X C (.Call (.Attribute (.Name x p1) name apos) (e :: es) [] cpos) (eMeth i pm f) := PE.weaken (hpe _ ha) fun σ H Q ⟨U, env, r, env', st, e, q⟩ => by
  unfold eMeth at e
  split at e
  · rename_i p0 d0 h0
    obtain ⟨a0, ea, u0, o0, _⟩ := st.owns i p0 d0 h0
    rw [Option.bind_eq_some_iff] at e
    obtain ⟨⟨rs, e1⟩, hf, e⟩ := e
    rw [Option.bind_eq_some_iff] at e
    obtain ⟨⟨as, e2⟩, hd, e⟩ := e
    simp only at e
    split at e
    · rename_i p ds hds
      rw [Option.map_eq_some_iff] at e
      obtain ⟨⟨r', ds'⟩, hp, e⟩ := e
      obtain ⟨rfl, rfl⟩ := Prod.mk.inj e
      have hl : ∃ vs, H a0 = some (.lst vs) := st.dom a0 u0
      obtain ⟨vs0, hv0⟩ := hl
      refine ⟨_, ea, .inl ⟨rfl, _, .inl (.inl hv0)⟩, U, env, rs, e1, st, hf, fun ws H1 U1 s1 st1 r1 => ?_⟩
      obtain ⟨U2, s2, st2, r2⟩ := frzL_ok st1 r1 hd
      obtain ⟨a', e3, u, ⟨vs, hv, rv⟩, _⟩ := st2.owns i _ _ hds
      rw [ea] at e3
      cases e3
      obtain ⟨v, vs', rr1, rr2, k⟩ := hs H1 (Zo C.B U2) a0 vs ws ds as r' ds' Q hv rv r2 hp
      obtain ⟨s3, st3⟩ := st2.mut hds ea hv rr2
      exact k (q v _ U2 ((s1.trans s2).trans s3) st3 (Rep.stp st2.dom s3 _ _ rr1))
    · cases e
  · cases e
structure BmOk (X : Cx) (o : Expr) (name : Str) (apos : Pos) (e : Expr) (es : List Expr) (cpos : Pos) : Prop where
  hbase : attributeBase o name X.env (eval o X.env) = eval o X.env
  hfew : ((backTo cpos (starEach (e :: es) X.env)).all (fun x => !x.1) && (backToKw cpos (keywordEach [] X.env)).all (fun x => x.1.isSome)
      && decide ((e :: es).length + ([] : List Keyword).length + (if ([] : List Keyword).isEmpty then 0 else 1) < 30)) = true
  hline : (apos.endLine == cpos.line) = true
  hs : starEach (e :: es) X.env = (false, eval e X.env) :: starEach es X.env
  hplain : (backTo cpos (starEach es X.env)).any (·.1) = false
def pmAppend : List D → List D → Option (D × List D) := fun ds es => match es with
  | [d] => if ds.length < 1000000 then some (.none, ds ++ [d]) else none
  | _ => none
theorem ms_append {K : PySem.W.Frag} : MeS K rAppend pmAppend := by
  intro H Z a vs ws ds es r ds' Q hv rv re hp
  unfold pmAppend at hp
  split at hp
  · split at hp
    · rename_i hl
      obtain ⟨rfl, rfl⟩ := Prod.mk.inj (Option.some.inj hp)
      obtain ⟨w, t, rfl, r1, r2⟩ := re
      cases r2
      exact ⟨.non, vs ++ [w], rfl, rv.append (.one r1), fun q => ⟨a, vs, w, rfl, rfl, hv, Nat.lt_of_lt_of_le (by rw [rv.length]; exact hl) m_le, q⟩⟩
    · cases hp
  · cases hp
theorem ev_append {x : Str} {i : Nat} {e : Expr} {p1 apos cpos : Pos} {f : EvA} (ho : PE X (.Name x p1) (tVar i)) (ha : EvAs X C [e] f) (b : BmOk X (.Name x p1) "append" apos e [] cpos := by exact ⟨rfl, rfl, rfl, rfl, rfl⟩) : EvE X C (.Call (.Attribute (.Name x p1) "append" apos) [e] [] cpos) (eMeth i pmAppend f) :=
  ev_meth PySem.F.plainAttrs_list PySem.F.slot_list_append PySem.F.type_list_append mt_append ms_append ho ha fun t ht => pe_bm PySem.F.plainAttrs_list PySem.F.slot_list_append PySem.F.type_list_append mt_append ho ht b.hbase b.hfew b.hline b.hs b.hplain
def pmExtend : List D → List D → Option (D × List D) := fun ds es => match es with
  | [.list ds2] => if ds.length + ds2.length ≤ 1000000 then some (.none, ds ++ ds2) else none
  | _ => none
theorem ms_extend {K : PySem.W.Frag} : MeS K rExtend pmExtend := by
  intro H Z a vs ws ds es r ds' Q hv rv re hp
  unfold pmExtend at hp
  split at hp
  · split at hp
    · rename_i hl
      obtain ⟨rfl, rfl⟩ := Prod.mk.inj (Option.some.inj hp)
      obtain ⟨w, t, rfl, ⟨b, us, rfl, fz, r1⟩, r2⟩ := re
      cases r2
      exact ⟨.non, vs ++ us, rfl, rv.append r1, fun q => ⟨a, b, vs, us, rfl, rfl, hv, fz.1, Nat.le_trans (by rw [rv.length, r1.length]; exact hl) m_le, q⟩⟩
    · cases hp
  · cases hp
theorem ev_extend {x : Str} {i : Nat} {e : Expr} {p1 apos cpos : Pos} {f : EvA} (ho : PE X (.Name x p1) (tVar i)) (ha : EvAs X C [e] f) (b : BmOk X (.Name x p1) "extend" apos e [] cpos := by exact ⟨rfl, rfl, rfl, rfl, rfl⟩) : EvE X C (.Call (.Attribute (.Name x p1) "extend" apos) [e] [] cpos) (eMeth i pmExtend f) :=
  ev_meth PySem.F.plainAttrs_list PySem.F.slot_list_extend PySem.F.type_list_extend mt_extend ms_extend ho ha fun t ht => pe_bm PySem.F.plainAttrs_list PySem.F.slot_list_extend PySem.F.type_list_extend mt_extend ho ht b.hbase b.hfew b.hline b.hs b.hplain
def pmInsert : List D → List D → Option (D × List D) := fun ds es => match es with
  | [.int i, d] => if ds.length < 1000000 ∧ 0 ≤ i ∧ i < 1000000 then some (.none, ds.take i.toNat ++ [d] ++ ds.drop i.toNat) else none
  | _ => none
def rInsert : V → List V → Hp → VK → Prop := fun x vs H Q => ∃ (l : Addr) (xs : List V) (i : Int) (y : V), x = .ref l ∧ vs = [.int i, y] ∧ H l = some (.lst xs) ∧ xs.length < sizeLine ∧ 0 ≤ i ∧ i < 2 ^ 63 ∧ Q .non (upd H l (.lst (xs.take i.toNat ++ [y] ++ xs.drop i.toNat)))
theorem ms_insert {K : PySem.W.Frag} : MeS K rInsert pmInsert := by
  intro H Z a vs ws ds es r ds' Q hv rv re hp
  unfold pmInsert at hp
  split at hp
  · split at hp
    · rename_i i d hl
      obtain ⟨rfl, rfl⟩ := Prod.mk.inj (Option.some.inj hp)
      obtain ⟨w, t, rfl, r1, w2, t2, rfl, r2, r3⟩ := re
      cases r3
      cases r1
      refine ⟨.non, vs.take i.toNat ++ [w2] ++ vs.drop i.toNat, rfl, ((rv.take _).append (.one r2)).append (rv.drop _), fun q => ⟨a, vs, i, w2, rfl, rfl, hv, Nat.lt_of_lt_of_le (by rw [rv.length]; exact hl.1) m_le, hl.2.1, by omega, q⟩⟩
    · cases hp
  · cases hp
theorem ev_insert {x : Str} {i : Nat} {e e2 : Expr} {p1 apos cpos : Pos} {f : EvA} (ho : PE X (.Name x p1) (tVar i)) (ha : EvAs X C [e, e2] f) (b : BmOk X (.Name x p1) "insert" apos e [e2] cpos := by exact ⟨rfl, rfl, rfl, rfl, rfl⟩) : EvE X C (.Call (.Attribute (.Name x p1) "insert" apos) [e, e2] [] cpos) (eMeth i pmInsert f) :=
  ev_meth PySem.F.plainAttrs_list PySem.F.slot_list_insert PySem.F.type_list_insert mt_insert ms_insert ho ha fun t ht => pe_bm PySem.F.plainAttrs_list PySem.F.slot_list_insert PySem.F.type_list_insert mt_insert ho ht b.hbase b.hfew b.hline b.hs b.hplain
def pmPopAt : List D → List D → Option (D × List D) := fun ds es => match es with
  | [.int i] => if 0 ≤ i ∧ i < 1000000 then match ds[i.toNat]? with
    | some d => some (d, ds.eraseIdx i.toNat)
    | none => none
    else none
  | _ => none
theorem Reps.erase {K : PySem.W.Frag} {H : Hp} {Z : AP} : ∀ {ds : List D} {vs : List V} (n : Nat), Reps K H Z ds vs → Reps K H Z (ds.eraseIdx n) (vs.eraseIdx n)
  | [], _, n, h => by cases h; exact Reps.nil
  | d :: ds, _, 0, h => by
    obtain ⟨v, r, rfl, h1, h2⟩ := h
    exact h2
  | d :: ds, _, n + 1, h => by
    obtain ⟨v, r, rfl, h1, h2⟩ := h
    exact ⟨v, _, rfl, h1, Reps.erase n h2⟩
theorem ms_popAt {K : PySem.W.Frag} : MeS K rPopAt pmPopAt := by
  intro H Z a vs ws ds es r ds' Q hv rv re hp
  unfold pmPopAt at hp
  split at hp
  · split at hp
    · rename_i i hl
      split at hp
      · rename_i d hd
        obtain ⟨rfl, rfl⟩ := Prod.mk.inj (Option.some.inj hp)
        obtain ⟨w, t, rfl, r1, r3⟩ := re
        cases r3
        cases r1
        obtain ⟨v, ev, rr⟩ := rv.get hd
        have hlt := lt_of_get ev
        exact ⟨v, vs.eraseIdx i.toNat, rr, rv.erase _, fun q => ⟨a, vs, i, i.toNat, v, rfl, rfl, hv, by omega, by omega, seqIndex_of hl.1 (by omega), ev, q⟩⟩
      · cases hp
    · cases hp
  · cases hp
theorem ev_popAt {x : Str} {i : Nat} {e : Expr} {p1 apos cpos : Pos} {f : EvA} (ho : PE X (.Name x p1) (tVar i)) (ha : EvAs X C [e] f) (b : BmOk X (.Name x p1) "pop" apos e [] cpos := by exact ⟨rfl, rfl, rfl, rfl, rfl⟩) : EvE X C (.Call (.Attribute (.Name x p1) "pop" apos) [e] [] cpos) (eMeth i pmPopAt f) :=
  ev_meth PySem.F.plainAttrs_list PySem.F.slot_list_pop PySem.F.type_list_pop mt_popAt ms_popAt ho ha fun t ht => pe_bm PySem.F.plainAttrs_list PySem.F.slot_list_pop PySem.F.type_list_pop mt_popAt ho ht b.hbase b.hfew b.hline b.hs b.hplain
end
end Sm
set_option Elab.async false
set_option linter.all false
set_option maxRecDepth 100000
set_option maxHeartbeats 1000000
/-! The layer: what is walked, for, while, comprehensions. -/
namespace Sm
open PySem PySem.Spec PyProof.Rows L2
section
variable {X : Cx} {C : Cn} {pos : Pos}
/-! ### what is walked -/
def Yld (K : PySem.W.Frag) (C : Cn) (J : It) (ds : List D) (H0 : Hp) (U0 : AP) : Prop :=
  ∀ (B : AP) (H : Hp) (U : AP) (σ : L2.St) (env : Env') (i : Nat), (∀ a, B a → C.B a ∨ H0 a = none) → Stp H0 U0 H U → Stt K (C.wB B) H U σ env →
    (∀ d, ds[i]? = some d → J.go i H ∧ ∀ x H', J.yld i H x H' → Stp H U H' U ∧ Stt K (C.wB B) H' U σ env ∧ Rep K H' (Zo B U) d x) ∧ (i = ds.length → J.stop i H)
abbrev EvL := Env' → Option (List D × Env')
def tI (K : PySem.W.Frag) (C : Cn) (f : EvL) : TI := fun σ H R => ∃ U env ds env', Stt K C H U σ env ∧ f env = some (ds, env') ∧ ∀ J H' U', Stp H U H' U' → Stt K C H' U' σ env' → Yld K C J ds H' U' → R J H'
def EvI (X : Cx) (C : Cn) (tg it : Expr) (f : EvL) : Prop := PI X tg it (tI X.K C f)
theorem PI.orI {tg it : Expr} {t u : TI} (h : PI X tg it t) (k : PI X tg it u) : PI X tg it (fun σ H R => t σ H R ∨ u σ H R) := ⟨fun pins s σ H R I q => by
  rcases q with q | q
  · exact h.run pins s σ H R I q
  · exact k.run pins s σ H R I q⟩
/-- the members of a list or a tuple -/
def lSeq (f : Ev) : EvL := fun env => (f env).bind fun a => (frz a.2 a.1).bind fun b => match b.1 with
  | .list ds => some (ds, b.2)
  | .tuple ds => some (ds, b.2)
  | _ => none
theorem yld_list {K : PySem.W.Frag} {H : Hp} {U : AP} {a : Addr} {ds : List D} {vs : List V} (dm : Dom H U) (h : FzL H (Zo C.B U) a vs) (r : Reps K H (Zo C.B U) ds vs) : Yld K C (Itl K a) ds H U := by
  intro B H1 U1 σ env i hB s S
  have h1 := fzL_stp s hB h
  have r1 := Reps.stpB dm s hB _ _ r
  refine ⟨fun d hd => ?_, fun hi => ⟨vs, h1.sq, by rw [r1.length]; omega⟩⟩
  obtain ⟨v, ev, rv⟩ := r1.get hd
  refine ⟨⟨vs, v, h1.sq, ev⟩, fun x H' y => ?_⟩
  obtain ⟨rfl, y⟩ := y
  have := y vs h1.sq
  rw [ev] at this
  cases this
  exact ⟨.refl, S, rv⟩
theorem yld_tup {K : PySem.W.Frag} {H : Hp} {U : AP} {a : Addr} {ds : List D} {vs : List V} (dm : Dom H U) (h : SqT K H a vs) (r : Reps K H (Zo C.B U) ds vs) : Yld K C (Itt K a) ds H U := by
  intro B H1 U1 σ env i hB s S
  have h1 := sqT_stp dm s h
  have r1 := Reps.stpB dm s hB _ _ r
  refine ⟨fun d hd => ?_, fun hi => ⟨vs, h1, by rw [r1.length]; omega⟩⟩
  obtain ⟨v, ev, rv⟩ := r1.get hd
  refine ⟨⟨vs, v, h1, ev⟩, fun x H' y => ?_⟩
  obtain ⟨rfl, y⟩ := y
  have := y vs h1
  rw [ev] at this
  cases this
  exact ⟨.refl, S, rv⟩
theorem ei_seq {tg e : Expr} {f : Ev} (h : EvE X C e f) : EvI X C tg e (lSeq f) := PI.weaken (PI.orI (pi_list h) (pi_tup h)) fun σ H R ⟨U, env, ds, env', st, e, q⟩ => by
  simp only [lSeq, Option.bind_eq_some_iff] at e
  obtain ⟨⟨ra, e1⟩, hf, ⟨d, e2⟩, hd, e⟩ := e
  simp only at e
  split at e
  · obtain ⟨rfl, rfl⟩ := Prod.mk.inj (Option.some.inj e)
    refine .inl ⟨U, env, ra, e1, st, hf, fun v H1 U1 s1 st1 r1 => ?_⟩
    obtain ⟨U2, s2, st2, a, vs, rfl, fz, r2⟩ := frz_ok st1 r1 hd
    exact ⟨a, rfl, ⟨vs, fz.sq⟩, q _ H1 U2 (s1.trans s2) st2 (yld_list st2.dom fz r2)⟩
  · obtain ⟨rfl, rfl⟩ := Prod.mk.inj (Option.some.inj e)
    refine .inr ⟨U, env, ra, e1, st, hf, fun v H1 U1 s1 st1 r1 => ?_⟩
    obtain ⟨U2, s2, st2, a, vs, rfl, fz, r2⟩ := frz_ok st1 r1 hd
    exact ⟨a, rfl, ⟨vs, fz⟩, q _ H1 U2 (s1.trans s2) st2 (yld_tup st2.dom fz r2)⟩
  · cases e
/-- range(j), range(i, j) -/
def rngD (lo : Int) (n : Nat) : List D := (List.range n).map fun i => PyData.int (lo + (i : Nat))
theorem rngD_length (lo : Int) (n : Nat) : (rngD lo n).length = n := by unfold rngD; simp
theorem yld_rng {K : PySem.W.Frag} {H : Hp} {U : AP} (lo : Int) (n : Nat) : Yld K C (Itr lo n) (rngD lo n) H U := by
  intro B H1 U1 σ env i hB s S
  refine ⟨fun d hd => ?_, fun hi => ?_⟩
  · have hl := lt_of_get hd
    rw [rngD_length] at hl
    refine ⟨hl, fun x H' y => ?_⟩
    obtain ⟨rfl, rfl⟩ := y
    refine ⟨.refl, S, ?_⟩
    have e : (rngD lo n)[i]? = some (.int (lo + (i : Nat))) := by
      unfold rngD
      rw [List.getElem?_map, List.getElem?_range hl]
      rfl
    rw [hd] at e
    cases e
    rfl
  · rw [rngD_length] at hi
    exact Nat.le_of_eq hi.symm
def lRng1 (a : EvA) : EvL := fun env => (a env).bind fun b => match b.1 with
  | [.val (.int j)] => if -1000000 < j ∧ j < 1000000 then some (rngD 0 j.toNat, b.2) else none
  | _ => none
def lRng2 (a : EvA) : EvL := fun env => (a env).bind fun b => match b.1 with
  | [.val (.int i), .val (.int j)] => if -1000000 < i ∧ i < 1000000 ∧ -1000000 < j ∧ j < 1000000 then some (rngD i (j - i).toNat, b.2) else none
  | _ => none
theorem ei_rng1 {tg a : Expr} {f : EvA} {p : Pos} (hg : Gl X "range") (hm : X.mg "range" = none) (ha : EvAs X C [a] f) (hs : starEach [a] X.env = [(false, eval a X.env)] := by rfl) : EvI X C tg (.Call (.Name "range" p) [a] [] pos) (lRng1 f) :=
  PI.weaken (pi_range1 hg hm ha hs) fun σ H R ⟨U, env, ds, env', st, e, q⟩ => by
    simp only [lRng1, Option.bind_eq_some_iff] at e
    obtain ⟨⟨rs, e1⟩, hf, e⟩ := e
    simp only at e
    split at e
    · split at e
      · rename_i hj
        obtain ⟨rfl, rfl⟩ := Prod.mk.inj (Option.some.inj e)
        refine ⟨U, env, _, e1, st, hf, fun vs H1 U1 s1 st1 r1 => ?_⟩
        obtain ⟨v, t, rfl, r1, r2⟩ := r1
        cases r2
        cases r1
        exact ⟨_, rfl, by omega, by omega, q _ H1 U1 s1 st1 (yld_rng 0 _)⟩
      · cases e
    · cases e
theorem ei_rng2 {tg a b : Expr} {f : EvA} {p : Pos} (hg : Gl X "range") (hm : X.mg "range" = none) (ha : EvAs X C [a, b] f) (hs : starEach [a, b] X.env = [(false, eval a X.env), (false, eval b X.env)] := by rfl) (hs2 : starEach [b] X.env = [(false, eval b X.env)] := by rfl) : EvI X C tg (.Call (.Name "range" p) [a, b] [] pos) (lRng2 f) :=
  PI.weaken (pi_range2 hg hm ha hs hs2) fun σ H R ⟨U, env, ds, env', st, e, q⟩ => by
    simp only [lRng2, Option.bind_eq_some_iff] at e
    obtain ⟨⟨rs, e1⟩, hf, e⟩ := e
    simp only at e
    split at e
    · split at e
      · rename_i hj
        obtain ⟨rfl, rfl⟩ := Prod.mk.inj (Option.some.inj e)
        refine ⟨U, env, _, e1, st, hf, fun vs H1 U1 s1 st1 r1 => ?_⟩
        obtain ⟨v, t, rfl, r1, w, t2, rfl, r2, r3⟩ := r1
        cases r3
        cases r2
        cases r1
        exact ⟨_, _, rfl, ⟨by omega, by omega, by omega, by omega⟩, q _ H1 U1 s1 st1 (yld_rng _ _)⟩
      · cases e
    · cases e
/-- the members of a list or a tuple, as data -/
def seqOf : D → Option (List D)
  | .list ds => some ds
  | .tuple ds => some ds
  | _ => none
def SrcD (K : PySem.W.Frag) (H : Hp) (Z : AP) (ds : List D) : Src → Prop
  | .l a => ∃ vs, FzL H Z a vs ∧ Reps K H Z ds vs
  | .t a => ∃ vs, SqT K H a vs ∧ Reps K H Z ds vs
theorem seqOf_src {K : PySem.W.Frag} {H : Hp} {Z : AP} {d : D} {v : V} {ds : List D} (h : Rep K H Z d v) (e : seqOf d = some ds) : ∃ c : Src, v = .ref c.ad ∧ SrcD K H Z ds c := by
  unfold seqOf at e
  split at e
  · cases e
    obtain ⟨a, vs, rfl, f, r⟩ := h
    exact ⟨.l a, rfl, vs, f, r⟩
  · cases e
    obtain ⟨a, vs, rfl, f, r⟩ := h
    exact ⟨.t a, rfl, vs, f, r⟩
  · cases e
theorem SrcD.later {K : PySem.W.Frag} {H H1 : Hp} {U U1 B B1 : AP} {ds : List D} (dm : Dom H U) (s : Stp H U H1 U1) (hB : ∀ a, B1 a → B a ∨ H a = none) : ∀ {c : Src}, SrcD K H (Zo B U) ds c → SrcD K H1 (Zo B1 U1) ds c
  | .l a, h => by
    obtain ⟨vs, f, r⟩ := h
    exact ⟨vs, fzL_stp s hB f, Reps.stpB dm s hB _ _ r⟩
  | .t a, h => by
    obtain ⟨vs, f, r⟩ := h
    exact ⟨vs, sqT_stp dm s f, Reps.stpB dm s hB _ _ r⟩
theorem SrcD.sq {K : PySem.W.Frag} {H : Hp} {Z : AP} {ds : List D} : ∀ {c : Src}, SrcD K H Z ds c → ∃ vs, c.Sq K H vs ∧ Reps K H Z ds vs
  | .l a, h => by
    obtain ⟨vs, f, r⟩ := h
    exact ⟨vs, f.sq, r⟩
  | .t a, h => h
def enD (ds : List D) : List D := ds.mapIdx fun i d => .tuple [.int (i : Nat), d]
def ziD (ds es : List D) : List D := (ds.zip es).map fun p => .tuple [p.1, p.2]
theorem yld_tuple {K : PySem.W.Frag} {H : Hp} {U B : AP} {σ : L2.St} {env : Env'} (S : Stt K (C.wB B) H U σ env) {T : Addr} {ds : List D} {vs : List V} (hn : H T = none) (r : Reps K H (Zo B U) ds vs) :
    Stp H U (upd H T (.tup vs)) U ∧ Stt K (C.wB B) (upd H T (.tup vs)) U σ env ∧ Rep K (upd H T (.tup vs)) (Zo B U) (.tuple ds) (.ref T) := by
  have s : Stp H U (upd H T (.tup vs)) U := stp_new hn fun b h => .inl h
  refine ⟨s, S.new hn (fun b u => u) (fun b h => .inl h) (fun u => ?_), T, vs, rfl, .inl (.inl upd_same), Reps.stp S.dom s _ _ r⟩
  obtain ⟨ws, e⟩ := S.dom _ u
  rw [hn] at e; cases e
theorem yld_en {K : PySem.W.Frag} {H : Hp} {U : AP} {c : Src} {ds : List D} (dm : Dom H U) (h : SrcD K H (Zo C.B U) ds c) : Yld K C (ItE K c) (enD ds) H U := by
  intro B H1 U1 σ env i hB s S
  obtain ⟨vs, hs, r⟩ := (h.later dm s hB).sq
  refine ⟨fun d hd => ?_, fun hi => ⟨vs, hs, by rw [r.length, hi]; unfold enD; rw [List.length_mapIdx]⟩⟩
  unfold enD at hd
  rw [List.getElem?_mapIdx, Option.map_eq_some_iff] at hd
  obtain ⟨d', hd, rfl⟩ := hd
  obtain ⟨v, ev, rv⟩ := r.get hd
  refine ⟨⟨vs, v, hs, ev⟩, fun x H' y => ?_⟩
  obtain ⟨T, x', rfl, hn, rfl, hx⟩ := y
  have e := hx vs hs
  rw [ev] at e
  cases e
  exact yld_tuple S hn (Reps.cons (d := .int (i : Nat)) rfl (.one rv))
theorem yld_zi {K : PySem.W.Frag} {H : Hp} {U : AP} {c d : Src} {ds es : List D} (dm : Dom H U) (h : SrcD K H (Zo C.B U) ds c) (k : SrcD K H (Zo C.B U) es d) : Yld K C (ItZ K c d) (ziD ds es) H U := by
  intro B H1 U1 σ env i hB s S
  obtain ⟨vs, hs, r⟩ := (h.later dm s hB).sq
  obtain ⟨ws, ks, t⟩ := (k.later dm s hB).sq
  refine ⟨fun d1 hd => ?_, fun hi => ⟨vs, ws, hs, ks, by rw [r.length, t.length, hi]; unfold ziD; rw [List.length_map, List.length_zip]⟩⟩
  unfold ziD at hd
  rw [List.getElem?_map, Option.map_eq_some_iff] at hd
  obtain ⟨⟨d', e'⟩, hd, rfl⟩ := hd
  rw [List.getElem?_zip_eq_some] at hd
  obtain ⟨v, ev, rv⟩ := r.get hd.1
  obtain ⟨w, ew, rw'⟩ := t.get hd.2
  refine ⟨⟨vs, ws, v, w, hs, ks, ev, ew⟩, fun x H' y => ?_⟩
  obtain ⟨T, x', y', rfl, hn, rfl, hx, hy⟩ := y
  have e := hx vs hs
  rw [ev] at e
  cases e
  have e2 := hy ws ks
  rw [ew] at e2
  cases e2
  exact yld_tuple S hn (Reps.cons rv (.one rw'))
def lEn (a : EvA) : EvL := fun env => (a env).bind fun b => (frzL b.2 b.1).bind fun c => match c.1 with
  | [d] => (seqOf d).map fun ds => (enD ds, c.2)
  | _ => none
theorem ei_en {elts : List Expr} {kk : Nat} {tpos p : Pos} {e : Expr} {f : EvA} (hg : Gl X "enumerate") (hm : X.mg "enumerate" = none) (ha : EvAs X C [e] f) (hs : starEach [e] X.env = [(false, eval e X.env)] := by rfl) : EvI X C (.Tuple elts kk tpos) (.Call (.Name "enumerate" p) [e] [] pos) (lEn f) :=
  PI.weaken (pi_enumS hg hm ha hs) fun σ H R ⟨U, env, ds, env', st, e, q⟩ => by
    simp only [lEn, Option.bind_eq_some_iff] at e
    obtain ⟨⟨rs, e1⟩, hf, ⟨as, e2⟩, hd, e⟩ := e
    simp only at e
    split at e
    · rw [Option.map_eq_some_iff] at e
      obtain ⟨ds', hds, e⟩ := e
      obtain ⟨rfl, rfl⟩ := Prod.mk.inj e
      refine ⟨U, env, _, e1, st, hf, fun vs H1 U1 s1 st1 r1 => ?_⟩
      obtain ⟨U2, s2, st2, v, t, rfl, r2, r3⟩ := frzL_ok st1 r1 hd
      cases r3
      obtain ⟨c, rfl, sd⟩ := seqOf_src r2 hds
      obtain ⟨ws, hw, _⟩ := sd.sq
      exact ⟨c, ws, rfl, hw, q _ H1 U2 (s1.trans s2) st2 (yld_en st2.dom sd)⟩
    · cases e
def lZi (a : EvA) : EvL := fun env => (a env).bind fun b => (frzL b.2 b.1).bind fun c => match c.1 with
  | [d, e] => (seqOf d).bind fun ds => (seqOf e).map fun es => (ziD ds es, c.2)
  | _ => none
theorem ei_zi {elts : List Expr} {kk : Nat} {tpos p : Pos} {e e2 : Expr} {f : EvA} (hg : Gl X "zip") (hm : X.mg "zip" = none) (ha : EvAs X C [e, e2] f)
    (hs : starEach [e, e2] X.env = (false, eval e X.env) :: starEach [e2] X.env := by rfl) (hpl : (backTo pos (starEach [e2] X.env)).any (·.1) = false := by rfl) : EvI X C (.Tuple elts kk tpos) (.Call (.Name "zip" p) [e, e2] [] pos) (lZi f) :=
  PI.weaken (pi_zipS hg hm ha hs hpl) fun σ H R ⟨U, env, ds, env', st, e, q⟩ => by
    simp only [lZi, Option.bind_eq_some_iff] at e
    obtain ⟨⟨rs, e1⟩, hf, ⟨as, e2⟩, hd, e⟩ := e
    simp only at e
    split at e
    · simp only [Option.bind_eq_some_iff, Option.map_eq_some_iff] at e
      obtain ⟨ds', hds, es', hes, e⟩ := e
      obtain ⟨rfl, rfl⟩ := Prod.mk.inj e
      refine ⟨U, env, _, e1, st, hf, fun vs H1 U1 s1 st1 r1 => ?_⟩
      obtain ⟨U2, s2, st2, v, t, rfl, r2, w, t2, rfl, r3, r4⟩ := frzL_ok st1 r1 hd
      cases r4
      obtain ⟨c, rfl, sd⟩ := seqOf_src r2 hds
      obtain ⟨d, rfl, sd2⟩ := seqOf_src r3 hes
      obtain ⟨ws, hw, _⟩ := sd.sq
      obtain ⟨ws2, hw2, _⟩ := sd2.sq
      exact ⟨c, d, ws, ws2, rfl, hw, hw2, q _ H1 U2 (s1.trans s2) st2 (yld_zi st2.dom sd sd2)⟩
    · cases e

/-! ### for -/
def forF (g : Tg) (F : Ex) : List D → Ex
  | [] => fun env => some (.nx, env)
  | d :: ds => fun env => (g d env).bind fun e => (F e).bind fun a => match a.1 with
    | .nx => forF g F ds a.2
    | .ct => forF g F ds a.2
    | .bk => some (.nx, a.2)
    | .ret r => some (.ret r, a.2)
def xFor (it : EvL) (g : Tg) (F : Ex) : Ex := fun env => (it env).bind fun a => forF g F a.1 a.2
theorem xs_for {tg iter : Expr} {body : List Stmt} {it : EvL} {ts : List Nat} {g : Tg} {F : Ex} (hp : PassesOwn (model X.prog X.w) X.A X.env X.xe) (hc : X.calm = true) (hi : EvI X C tg iter it) (hg : EvG X C tg ts g) (hb : ExB X C body F)
    (hs : ∀ x, foldedSetIterable iter X.env x = pure x := by intro _; rfl) : ExS X C (.For tg iter body [] pos) (xFor it g F) := PS.weaken (ps_for hp hc hi hg hb hs) fun Dn σ H ⟨U, env, fl, env', st, e, q⟩ => by
  simp only [xFor, Option.bind_eq_some_iff] at e
  obtain ⟨⟨ds, e1⟩, hf, e⟩ := e
  refine ⟨U, env, ds, e1, st, hf, fun J H1 U1 s1 st1 yl => ?_⟩
  refine ⟨fun i m σ H2 => m = ds.length - i ∧ i ≤ ds.length ∧ ∃ U2 en, Stp H1 U1 H2 U2 ∧ Stt X.K C H2 U2 σ en ∧ forF g F (ds.drop i) en = some (fl, env'), ⟨ds.length, by simp, Nat.zero_le _, U1, e1, .refl, st1, e⟩, fun i m σ H2 hW => ?_⟩
  obtain ⟨rfl, hi', U2, en, s2, st2, e2⟩ := hW
  have Y := yl C.B H2 U2 σ en i (fun a h => .inl h) s2 st2
  rcases Nat.lt_or_ge i ds.length with hlt | hge
  · have hd : ds[i]? = some ds[i] := List.getElem?_eq_getElem hlt
    obtain ⟨go, yd⟩ := Y.1 _ hd
    have ed : ds.drop i = ds[i] :: ds.drop (i + 1) := List.drop_eq_getElem_cons hlt
    rw [ed] at e2
    simp only [forF, Option.bind_eq_some_iff] at e2
    obtain ⟨e3, hg3, ⟨f4, e4⟩, hF4, e5⟩ := e2
    refine .inr ⟨go, fun σ' H' => ∃ m', m' < ds.length - i ∧ m' = ds.length - (i + 1) ∧ i + 1 ≤ ds.length ∧ ∃ U2 en, Stp H1 U1 H' U2 ∧ Stt X.K C H' U2 σ' en ∧ forF g F (ds.drop (i + 1)) en = some (fl, env'), fun σ' H' hN => ?_, fun x H' y => ?_⟩
    · obtain ⟨m', h1, h2, h3⟩ := hN
      exact ⟨m', h1, h2, h3⟩
    · obtain ⟨s3, st3, r3⟩ := yd x H' y
      refine ⟨U2, en, ds[i], e3, st3, r3, hg3, fun σ4 H4 U4 _ s4 st4 => ⟨U4, e3, f4, e4, st4, hF4, fun σ5 H5 U5 s5 st5 => ?_⟩⟩
      have S5 := ((s2.trans s3).trans s4).trans s5
      cases f4 with
      | nx => exact ⟨_, by omega, rfl, hlt, U5, e4, S5, st5, e5⟩
      | ct => exact ⟨_, by omega, rfl, hlt, U5, e4, S5, st5, e5⟩
      | bk =>
        obtain ⟨rfl, rfl⟩ := Prod.mk.inj (Option.some.inj e5)
        exact q σ5 H5 U5 (s1.trans S5) st5
      | ret d =>
        obtain ⟨rfl, rfl⟩ := Prod.mk.inj (Option.some.inj e5)
        exact q σ5 H5 U5 (s1.trans S5) st5
  · have hi2 : i = ds.length := Nat.le_antisymm hi' hge
    refine .inl ⟨Y.2 hi2, ?_⟩
    rw [hi2, List.drop_length] at e2
    obtain ⟨rfl, rfl⟩ := Prod.mk.inj (Option.some.inj e2)
    exact q σ H2 U2 (s1.trans s2) st2
/-! ### while -/
def whileF (c : EvB) (F : Ex) : Nat → Ex
  | 0 => fun _ => none
  | n + 1 => fun env => (c env).bind fun a => if a.1 = true then (F a.2).bind fun b => match b.1 with
      | .nx => whileF c F n b.2
      | .ct => whileF c F n b.2
      | .bk => some (.nx, b.2)
      | .ret r => some (.ret r, b.2)
    else some (.nx, a.2)
open Classical in
noncomputable def xWhile (c : EvB) (F : Ex) : Ex := fun env => if h : ∃ r, ∃ n, whileF c F n env = some r then some h.choose else none
theorem whileF_mono {c : EvB} {F : Ex} : ∀ {n : Nat} {env : Env'} {r : Fl × Env'}, whileF c F n env = some r → ∀ m, n ≤ m → whileF c F m env = some r
  | 0, env, r, h, _, _ => by cases h
  | n + 1, env, r, h, 0, hm => by omega
  | n + 1, env, r, h, m + 1, hm => by
    simp only [whileF, Option.bind_eq_some_iff] at h ⊢
    obtain ⟨a, ha, h⟩ := h
    refine ⟨a, ha, ?_⟩
    split at h
    · rename_i ht
      rw [if_pos ht]
      rw [Option.bind_eq_some_iff] at h ⊢
      obtain ⟨b, hb, h⟩ := h
      refine ⟨b, hb, ?_⟩
      obtain ⟨b1, b2⟩ := b
      cases b1 with
      | nx => exact whileF_mono h m (by omega)
      | ct => exact whileF_mono h m (by omega)
      | bk => exact h
      | ret d => exact h
    · rename_i ht
      rw [if_neg ht]
      exact h
theorem xWhile_of {c : EvB} {F : Ex} {n : Nat} {env : Env'} {r : Fl × Env'} (h : whileF c F n env = some r) : xWhile c F env = some r := by
  unfold xWhile
  have hx : ∃ r, ∃ n, whileF c F n env = some r := ⟨r, n, h⟩
  rw [dif_pos hx]
  obtain ⟨m, hm⟩ := hx.choose_spec
  have h1 := whileF_mono h (max n m) (Nat.le_max_left _ _)
  have h2 := whileF_mono hm (max n m) (Nat.le_max_right _ _)
  rw [h1] at h2
  exact h2.symm
theorem xWhile_to {c : EvB} {F : Ex} {env : Env'} {r : Fl × Env'} (h : xWhile c F env = some r) : ∃ n, whileF c F n env = some r := by
  unfold xWhile at h
  split at h
  · rename_i hx
    cases h
    exact hx.choose_spec
  · cases h
theorem xs_while {c : Expr} {body : List Stmt} {cc : EvB} {F : Ex} (hp : PassesOwn (model X.prog X.w) X.A X.env X.xe) (hc : EvT X C c cc) (hb : ExB X C body F) : ExS X C (.While c body [] pos) (xWhile cc F) := PS.weaken (ps_while hp hc hb) fun Dn σ H ⟨U, env, fl, env', st, e, q⟩ => by
  obtain ⟨n, e⟩ := xWhile_to e
  refine ⟨fun m σ H => tX X.K C (whileF cc F m) Dn σ H, ⟨n, U, env, fl, env', st, e, q⟩, fun m σ H hW => ?_⟩
  obtain ⟨U, env, fl, env', st, e, q⟩ := hW
  cases m with
  | zero => cases e
  | succ m =>
    simp only [whileF, Option.bind_eq_some_iff] at e
    obtain ⟨⟨b, e1⟩, hb', e⟩ := e
    refine ⟨U, env, b, e1, st, hb', fun H1 U1 s1 st1 => ?_⟩
    cases b with
    | true =>
      simp only [if_true] at e ⊢
      rw [Option.bind_eq_some_iff] at e
      obtain ⟨⟨f2, e2⟩, hF, e⟩ := e
      refine ⟨tX X.K C (whileF cc F m) Dn, fun σ' H' hN => ⟨m, Nat.lt_succ_self m, hN⟩, U1, e1, f2, e2, st1, hF, fun σ2 H2 U2 s2 st2 => ?_⟩
      cases f2 with
      | nx => exact ⟨U2, e2, fl, env', st2, e, q.stp (s1.trans s2)⟩
      | ct => exact ⟨U2, e2, fl, env', st2, e, q.stp (s1.trans s2)⟩
      | bk =>
        obtain ⟨rfl, rfl⟩ := Prod.mk.inj (Option.some.inj e)
        exact q σ2 H2 U2 (s1.trans s2) st2
      | ret d =>
        obtain ⟨rfl, rfl⟩ := Prod.mk.inj (Option.some.inj e)
        exact q σ2 H2 U2 (s1.trans s2) st2
    | false =>
      simp only [Bool.false_eq_true, if_false] at e ⊢
      obtain ⟨rfl, rfl⟩ := Prod.mk.inj (Option.some.inj e)
      exact q σ H1 U1 s1 st1
end
end Sm
set_option Elab.async false
set_option linter.all false
set_option maxRecDepth 100000
set_option maxHeartbeats 1000000
/-! The layer: comprehensions. -/
namespace Sm
open PySem PySem.Spec PyProof.Rows L2
def wipeE (env : Env') : List Nat → Env'
  | [] => env
  | v :: vs => (wipeE env vs).set v .no
theorem wipeE_length (env : Env') : ∀ vs : List Nat, (wipeE env vs).length = env.length
  | [] => rfl
  | v :: vs => by simp [wipeE, wipeE_length env vs]
theorem wipeE_get {env : Env'} {i : Nat} {s : Sl} : ∀ {vs : List Nat}, (wipeE env vs)[i]? = some s → s ≠ .no → env[i]? = some s ∧ i ∉ vs
  | [], h, _ => ⟨h, by simp⟩
  | v :: vs, h, hn => by
    have h' : ((wipeE env vs).set v .no)[i]? = some s := h
    by_cases hv : v = i
    · subst hv
      rcases Nat.lt_or_ge v (wipeE env vs).length with hl | hl
      · rw [List.getElem?_set_self hl] at h'
        cases h'
        exact absurd rfl hn
      · rw [List.getElem?_eq_none (by rw [List.length_set]; exact hl)] at h'
        cases h'
    · rw [List.getElem?_set_ne hv] at h'
      obtain ⟨h1, h2⟩ := wipeE_get (vs := vs) h' hn
      refine ⟨h1, fun z => ?_⟩
      rcases List.mem_cons.mp z with z | z
      · exact hv z.symm
      · exact h2 z
section
variable {K : PySem.W.Frag} {C : Cn} {H : Hp} {U : AP} {σ σ' : L2.St} {env : Env'}
/-- slots are forgotten; σ' knows what is left -/
theorem Stt.wipe (S : Stt K C H U σ env) (vs : List Nat) (hl : σ'.length = σ.length) (hk : ∀ (j : Nat) (v : V), j ∉ vs → σ[j]? = some (some v) → σ'[j]? = some (some v)) : Stt K C H U σ' (wipeE env vs) where
  len := by rw [wipeE_length, hl, S.len]
  dom := S.dom
  dis := S.dis
  domB := S.domB
  tabs := S.tabs
  vals := fun i d e => by
    obtain ⟨e1, hn⟩ := wipeE_get e (by intro z; cases z)
    obtain ⟨v, ev, r⟩ := S.vals i d e1
    exact ⟨v, hk i v hn ev, r⟩
  owns := fun i p d e => by
    obtain ⟨e1, hn⟩ := wipeE_get e (by intro z; cases z)
    obtain ⟨a, ea, r⟩ := S.owns i p d e1
    exact ⟨a, hk i _ hn ea, r⟩
  scrs := fun i ns e => by
    obtain ⟨e1, hn⟩ := wipeE_get e (by intro z; cases z)
    obtain ⟨a, ea, r⟩ := S.scrs i ns e1
    exact ⟨a, hk i _ hn ea, r⟩
  inj := fun i j p q d e a e1 e2 e3 e4 => by
    obtain ⟨f1, n1⟩ := wipeE_get e1 (by intro z; cases z)
    obtain ⟨f2, n2⟩ := wipeE_get e2 (by intro z; cases z)
    obtain ⟨a1, g1, _⟩ := S.owns i p d f1
    obtain ⟨a2, g2, _⟩ := S.owns j q e f2
    have h1 := hk i _ n1 g1
    have h2 := hk j _ n2 g2
    rw [e3] at h1
    rw [e4] at h2
    cases h1
    cases h2
    exact S.inj i j p q d e a f1 f2 g1 g2
end
def lcF (g : Tg) (c : EvB) (f : Ev) (vs : List Nat) : List D → Env' → Option (List D × Env')
  | [], env => some ([], env)
  | d :: ds, env => (g d env).bind fun e => (c e).bind fun a => if a.1 = true then (f a.2).bind fun r => (frz r.2 r.1).bind fun b => (lcF g c f vs ds (wipeE b.2 vs)).map fun t => (b.1 :: t.1, t.2)
    else lcF g c f vs ds (wipeE a.2 vs)
def eLc (vs : List Nat) (it : EvL) (g : Tg) (c : EvB) (f : Ev) : Ev := fun env => (it env).bind fun a => (lcF g c f vs a.1 (wipeE a.2 vs)).bind fun b => if b.1.length ≤ 1000000 then some (.fr (.list b.1), b.2) else none
def bYes : EvB := fun env => some (true, env)
theorem wipe_agr {σ σ' : L2.St} : ∀ {vs : List Nat}, σ'.length = σ.length → (∀ j, j ∉ vs → σ'[j]? = σ[j]?) → L2.wipe σ' vs = L2.wipe σ vs := by
  intro vs hl hk
  apply List.ext_getElem?
  intro j
  by_cases hj : j ∈ vs
  · have h1 : ∀ (τ : L2.St) (vs : List Nat), j ∈ vs → (L2.wipe τ vs)[j]? = if j < τ.length then some none else none := by
      intro τ vs
      induction vs with
      | nil => intro h; cases h
      | cons v vs ih =>
        intro h
        show ((L2.wipe τ vs).set v none)[j]? = _
        by_cases hv : v = j
        · subst hv
          rcases Nat.lt_or_ge v τ.length with z | z
          · rw [List.getElem?_set_self (by rw [L2.wipe_length]; exact z), if_pos z]
          · rw [List.getElem?_eq_none (by rw [List.length_set, L2.wipe_length]; exact z), if_neg (by omega)]
        · rw [List.getElem?_set_ne hv]
          rcases List.mem_cons.mp h with h | h
          · exact absurd h.symm hv
          · exact ih h
    rw [h1 _ _ hj, h1 _ _ hj, hl]
  · rw [L2.wipe_out hj, L2.wipe_out hj, hk j hj]
theorem agr_wipe {σ σ' : L2.St} {ts vs : List Nat} (a : Agr ts (L2.wipe σ vs) σ') (hs : ∀ j ∈ ts, j ∈ vs) : L2.wipe σ' vs = L2.wipe σ vs := by
  refine wipe_agr (by rw [a.1, L2.wipe_length]) fun j hj => ?_
  rw [a.2 j (fun z => hj (hs j z)), L2.wipe_out hj]
section
variable {X : Cx} {C : Cn} {pos : Pos}
/-- a list that is only added to, and known to nobody, is written -/
theorem Stt.updB {K : PySem.W.Frag} {C : Cn} {H : Hp} {U : AP} {σ : L2.St} {env : Env'} {Da : Addr} (S : Stt K (C.wB fun b => C.B b ∨ b = Da) H U σ env) {xs ys : List V} (hD : H Da = some (.lst xs)) : Stt K (C.wB fun b => C.B b ∨ b = Da) (upd H Da (.lst ys)) U σ env := by
  have nU : ¬ U Da := fun z => S.dis Da z (.inr rfl)
  -- as if it were owned
  have s : Stp H (fun b => U b ∨ b = Da) (upd H Da (.lst ys)) (fun b => U b ∨ b = Da) := ⟨fun b o e n _ => by
    rw [upd_ne (fun z => n (.inr z))]
    exact e, fun b u => .inl u, fun b h => by
    by_cases z : b = Da
    · rw [z, upd_same]; simp
    · rw [upd_ne z]; exact h⟩
  have dm : Dom H (fun b => U b ∨ b = Da) := fun b u => by
    rcases u with u | u
    · exact S.dom b u
    · exact ⟨xs, by rw [u]; exact hD⟩
  have z1 : ∀ b, Zo C.B (fun b => U b ∨ b = Da) b → Zo (fun b => C.B b ∨ b = Da) U b := fun b z => by
    rcases z with (z | z) | z
    · exact .inl z
    · exact .inr (.inr z)
    · exact .inr (.inl z)
  have z2 : ∀ b, Zo (fun b => C.B b ∨ b = Da) U b → Zo C.B (fun b => U b ∨ b = Da) b := fun b z => by
    rcases z with z | z | z
    · exact .inl (.inl z)
    · exact .inr z
    · exact .inl (.inr z)
  refine ⟨S.len, fun b u => ?_, S.dis, fun b z => s.there b (S.domB b z), fun q hq => ?_, fun i d e => ?_, fun i p d e => ?_, fun i ns e => ?_, S.inj⟩
  · rw [upd_ne (fun z => nU (by rw [← z]; exact u))]
    exact S.dom b u
  · obtain ⟨ps, e1, e2, e3⟩ := S.tabs q hq
    refine ⟨ps, by rw [upd_ne (ne_of e1 hD (fun z => by cases z))]; exact e1, e2, fun pos cv hc => ?_⟩
    obtain ⟨c, ec, hco⟩ := e3 pos cv hc
    exact ⟨c, ec, by rw [upd_ne (ne_of hco hD (fun z => by unfold LamX.CodeO at z; cases z))]; exact hco⟩
  · obtain ⟨v, ev, r⟩ := S.vals i d e
    exact ⟨v, ev, Rep.mono z2 _ _ (Rep.stp dm s _ _ (Rep.mono z1 _ _ r))⟩
  · obtain ⟨a, ea, u, o, q⟩ := S.owns i p d e
    refine ⟨a, ea, u, ?_, q⟩
    cases d with
    | list ds =>
      obtain ⟨vs, ev, r⟩ := o
      exact ⟨vs, by rw [upd_ne (fun z => nU (by rw [← z]; exact u))]; exact ev, Reps.mono z2 _ _ (Reps.stp dm s _ _ (Reps.mono z1 _ _ r))⟩
    | _ => exact o.elim
  · obtain ⟨a, ea, r⟩ := S.scrs i ns e
    exact ⟨a, ea, (scrL_stp dm s (r.mono z1)).mono z2⟩
def EvTs (X : Cx) (C : Cn) (ifs : List Expr) (c : EvB) : Prop := PTs X ifs (tT X.K C c)
theorem PTs.weaken {X : Cx} {e : List Expr} {t t' : TT} (h : PTs X e t) (k : ∀ σ H Q, t' σ H Q → t σ H Q) : PTs X e t' := ⟨fun pins s σ H Q I q => h.run pins s σ H Q I (k σ H Q q)⟩
theorem ets_nil : EvTs X C [] bYes := PTs.weaken pts_nil fun σ H Q ⟨U, env, b, env', st, e, q⟩ => by
  cases e
  exact q H U .refl st
theorem ets_one {c : Expr} {cc : EvB} (h : EvT X C c cc) : EvTs X C [c] cc := pts_one h
theorem PG.exB {X : Cx} {e : Expr} {ι : Type} {t : ι → TG} (h : ∀ i, PG X e (t i)) : PG X e (fun v σ H Q => ∃ i, t i v σ H Q) := ⟨fun pins s σ H v u Q I r ⟨i, q⟩ => (h i).run pins s σ H v u Q I r q⟩
theorem PTs.exB {X : Cx} {e : List Expr} {ι : Type} {t : ι → TT} (h : ∀ i, PTs X e (t i)) : PTs X e (fun σ H Q => ∃ i, t i σ H Q) := ⟨fun pins s σ H Q I ⟨i, q⟩ => (h i).run pins s σ H Q I q⟩
/-- the reading of a comprehension -/
theorem lc_ok {K : PySem.W.Frag} {it : EvL} {ts vs : List Nat} {g : Tg} {c : EvB} {f : Ev} (hts : ∀ j ∈ ts, j ∈ vs) : ∀ σ H Q, tE K C (eLc vs it g c f) σ H Q →
    tLc (tI K C it) (fun v σ H Q => ∃ B, tG K (C.wB B) ts g v σ H Q) (fun σ H Q => ∃ B, tT K (C.wB B) c σ H Q) (fun σ H Q => ∃ B, tE K (C.wB B) f σ H Q) vs σ H Q := fun σ H Q ⟨U, env, r, env', st, e, q⟩ => by
  simp only [eLc, Option.bind_eq_some_iff] at e
  obtain ⟨⟨ds, e1⟩, hf, ⟨out, e2⟩, hl, e⟩ := e
  split at e
  · rename_i hz
    obtain ⟨rfl, rfl⟩ := Prod.mk.inj (Option.some.inj e)
    refine ⟨U, env, ds, e1, st, hf, fun J H1 U1 s1 st1 yl Da hDa => ?_⟩
    have nB : ¬ C.B Da := fun z => st1.domB Da z hDa
    have nU1 : ¬ U1 Da := fun z => by
      obtain ⟨vs, e⟩ := st1.dom Da z
      rw [hDa] at e; cases e
    -- the state ahead of the first turn
    have hσl : (L2.wipe σ vs).length = σ.length := L2.wipe_length σ vs
    have w0 : Stt K C H1 U1 (L2.wipe σ vs) (wipeE e1 vs) := st1.wipe vs hσl fun j v hj e => by rw [L2.wipe_out hj]; exact e
    have b0 : Stt K (C.wB fun b => C.B b ∨ b = Da) (upd H1 Da (.lst [])) U1 (L2.wipe σ vs) (wipeE e1 vs) := by
      have n0 := w0.new (p := Da) (o := .lst []) (U' := fun b => U1 b ∨ b = Da) hDa (fun b u => .inl u) (fun b u => u) (fun _ => ⟨[], rfl⟩)
      have n1 := n0.apart (a := Da) (.inr rfl) (fun i p d e z => by
        obtain ⟨a, ea, u, _⟩ := w0.owns i p d e
        rw [z] at ea
        cases ea
        exact nU1 u)
      refine ⟨n1.len, fun b u => n1.dom b ⟨.inl u, fun z => nU1 (by rw [← z]; exact u)⟩, fun b u => n1.dis b ⟨.inl u, fun z => nU1 (by rw [← z]; exact u)⟩, n1.domB, n1.tabs, fun i d e => ?_, fun i p d e => ?_, fun i ns e => ?_, n1.inj⟩
      · obtain ⟨v, ev, r⟩ := n1.vals i d e
        exact ⟨v, ev, Rep.mono (fun b z => by
          rcases z with z | z
          · exact .inl ⟨.inl z, fun y => nU1 (by rw [← y]; exact z)⟩
          · exact .inr z) _ _ r⟩
      · obtain ⟨a, ea, u, o, qq⟩ := n1.owns i p d e
        refine ⟨a, ea, ?_, o.mono fun b z => ?_, qq⟩
        · rcases u.1 with z | z
          · exact z
          · exact absurd z u.2
        · rcases z with z | z
          · exact .inl ⟨.inl z, fun y => nU1 (by rw [← y]; exact z)⟩
          · exact .inr z
      · obtain ⟨a, ea, r⟩ := n1.scrs i ns e
        exact ⟨a, ea, r.mono (fun b z => by
          rcases z with z | z
          · exact .inl ⟨.inl z, fun y => nU1 (by rw [← y]; exact z)⟩
          · exact .inr z)⟩
    have sD : ∀ {H2 : Hp} {U2 : AP} {o : HO}, Stp H1 U1 H2 U2 → Stp H1 U1 (upd H2 Da o) U2 := fun {H2 U2 o} s => ⟨fun b ob e n t => by
      rw [upd_ne (ne_of_none e hDa)]
      exact s.keep b ob e n t, s.own, fun b h => by
      by_cases z : b = Da
      · rw [z, upd_same]; simp
      · rw [upd_ne z]; exact s.there b h⟩
    refine ⟨fun i m H2 => m = ds.length - i ∧ i ≤ ds.length ∧ ∃ U2 en acc accv rest, Stp H1 U1 H2 U2 ∧ Stt K (C.wB fun b => C.B b ∨ b = Da) H2 U2 (L2.wipe σ vs) en ∧ H2 Da = some (.lst accv) ∧ Reps K H2 (Zo (fun b => C.B b ∨ b = Da) U2) acc accv ∧
      lcF g c f vs (ds.drop i) en = some (rest, e2) ∧ acc ++ rest = out, ⟨ds.length, by simp, Nat.zero_le _, U1, _, [], [], out, sD .refl, b0, upd_same, rfl, hl, by simp⟩, fun i m H2 hW => ?_⟩
    obtain ⟨rfl, hi', U2, en, acc, accv, rest, s2, st2, hacc, racc, hlc, hout⟩ := hW
    have Y := yl (fun b => C.B b ∨ b = Da) H2 U2 (L2.wipe σ vs) en i (fun a h => by
      rcases h with h | h
      · exact .inl h
      · exact .inr (by rw [h]; exact hDa)) s2 st2
    rcases Nat.lt_or_ge i ds.length with hlt | hge
    · have hd : ds[i]? = some ds[i] := List.getElem?_eq_getElem hlt
      obtain ⟨go, yd⟩ := Y.1 _ hd
      have ed : ds.drop i = ds[i] :: ds.drop (i + 1) := List.drop_eq_getElem_cons hlt
      rw [ed] at hlc
      simp only [lcF, Option.bind_eq_some_iff] at hlc
      obtain ⟨e3, hg3, ⟨b4, e4⟩, hc4, e5⟩ := hlc
      refine .inr ⟨go, fun H' => ∃ m', m' < ds.length - i ∧ m' = ds.length - (i + 1) ∧ i + 1 ≤ ds.length ∧ ∃ U2 en acc accv rest, Stp H1 U1 H' U2 ∧ Stt K (C.wB fun b => C.B b ∨ b = Da) H' U2 (L2.wipe σ vs) en ∧ H' Da = some (.lst accv) ∧ Reps K H' (Zo (fun b => C.B b ∨ b = Da) U2) acc accv ∧
        lcF g c f vs (ds.drop (i + 1)) en = some (rest, e2) ∧ acc ++ rest = out, fun H' hN => ?_, fun x H' y => ?_⟩
      · obtain ⟨m', h1, h2⟩ := hN
        exact ⟨m', h1, h2⟩
      · obtain ⟨s3, st3, r3⟩ := yd x H' y
        refine ⟨fun b => C.B b ∨ b = Da, U2, en, ds[i], e3, st3, r3, hg3, fun σ4 H4 U4 ag s4 st4 => ?_⟩
        have ew := agr_wipe ag hts
        have wl : σ4.length = (L2.wipe σ vs).length := ag.1
        -- from a state of the turn back to the next one's beginning
        have next : ∀ {H6 : Hp} {U6 : AP} {e6 : Env'}, Stt K (C.wB fun b => C.B b ∨ b = Da) H6 U6 σ4 e6 → Stt K (C.wB fun b => C.B b ∨ b = Da) H6 U6 (L2.wipe σ vs) (wipeE e6 vs) := fun {H6 U6 e6} S => by
          refine S.wipe vs wl.symm fun j v hj e => ?_
          rw [← ew, L2.wipe_out hj]
          exact e
        have kD : ∀ {Ha Hb : Hp} {Ua Ub : AP} {τ : L2.St} {en' : Env'} {zs : List V}, Stt K (C.wB fun b => C.B b ∨ b = Da) Ha Ua τ en' → Stp Ha Ua Hb Ub → Ha Da = some (.lst zs) → Hb Da = some (.lst zs) := fun S s e => s.keep _ _ e (fun u => S.dis Da u (.inr rfl)) (fun ps z => by cases z)
        refine ⟨ew, fun b => C.B b ∨ b = Da, U4, e3, b4, e4, st4, hc4, fun H5 U5 s5 st5 => ?_⟩
        have S5 := (s3.trans s4).trans s5
        have hacc5 : H5 Da = some (.lst accv) := kD st2 S5 hacc
        have racc5 := Reps.stp st2.dom S5 _ _ racc
        cases b4 with
        | false =>
          simp only [Bool.false_eq_true, if_false] at e5 ⊢
          exact ⟨_, by omega, rfl, hlt, U5, _, acc, accv, rest, s2.trans S5, next st5, hacc5, racc5, e5, hout⟩
        | true =>
          simp only [if_true, Option.bind_eq_some_iff, Option.map_eq_some_iff] at e5 ⊢
          obtain ⟨⟨r6, e6⟩, hf6, ⟨d7, e7⟩, hfz, ⟨rs8, e8⟩, hl8, e9⟩ := e5
          obtain ⟨rfl, rfl⟩ := Prod.mk.inj e9
          refine ⟨fun b => C.B b ∨ b = Da, U5, e4, r6, e6, st5, hf6, fun v H6 U6 s6 st6 r6' => ?_⟩
          obtain ⟨U7, s7, st7, r7⟩ := frz_ok st6 r6' hfz
          have S7 := S5.trans (s6.trans s7)
          have hacc7 : H6 Da = some (.lst accv) := kD st2 S7 hacc
          have racc7 := Reps.stp st2.dom S7 _ _ racc
          have racc8 := racc7.append (.one r7)
          have lacc : accv.length < sizeLine := by
            have h1 := racc.length
            have h2 : (acc ++ d7 :: rs8).length ≤ 1000000 := by rw [hout]; exact hz
            rw [List.length_append, List.length_cons] at h2
            have := m_le
            omega
          have st8 := st7.updB (C := C) (ys := accv ++ [v]) hacc7
          refine ⟨accv, hacc7, lacc, _, by omega, rfl, hlt, U7, _, acc ++ [d7], accv ++ [v], rs8, sD (s2.trans S7), next st8, upd_same, ?_, hl8, by rw [← hout]; simp⟩
          -- what was made stays
          have nU7 : ¬ U7 Da := fun z => st7.dis Da z (.inr rfl)
          have s8 : Stp H6 (fun b => U7 b ∨ b = Da) (upd H6 Da (.lst (accv ++ [v]))) (fun b => U7 b ∨ b = Da) := ⟨fun b o e n _ => by
            rw [upd_ne (fun z => n (.inr z))]
            exact e, fun b u => .inl u, fun b h => by
            by_cases z : b = Da
            · rw [z, upd_same]; simp
            · rw [upd_ne z]; exact h⟩
          have dm : Dom H6 (fun b => U7 b ∨ b = Da) := fun b u => by
            rcases u with u | u
            · exact st7.dom b u
            · exact ⟨accv, by rw [u]; exact hacc7⟩
          refine Reps.mono (fun b z => ?_) _ _ (Reps.stp dm s8 _ _ (Reps.mono (fun b z => ?_) _ _ racc8 : Reps K H6 (Zo C.B fun b => U7 b ∨ b = Da) _ _))
          · rcases z with z | z | z
            · exact .inl (.inl z)
            · exact .inr z
            · exact .inl (.inr z)
          · rcases z with (z | z) | z
            · exact .inl z
            · exact .inr (.inr z)
            · exact .inr (.inl z)
    · have hi2 : i = ds.length := Nat.le_antisymm hi' hge
      refine .inl ⟨Y.2 hi2, ?_⟩
      rw [hi2, List.drop_length] at hlc
      obtain ⟨rfl, rfl⟩ := Prod.mk.inj (Option.some.inj hlc)
      rw [List.append_nil] at hout
      subst hout
      have st3 := st2.back (C := C) nB ⟨accv, hacc⟩
      have s3 : Stp H1 U1 H2 (fun b => U2 b ∨ b = Da) := ⟨s2.keep, fun b u => by
        rcases u with u | u
        · exact s2.own b u
        · exact .inr (by rw [u]; exact hDa), s2.there⟩
      have st4 : Stt K C H2 (fun b => U2 b ∨ b = Da) σ en := by
        have := st3.wipe (σ' := σ) [] (by rw [L2.wipe_length]) fun j v hj e => (L2.wipe_some e).1
        exact this
      refine q (.ref Da) H2 _ (s1.trans s3) st4 ⟨Da, rfl, .inr rfl, ⟨accv, hacc, Reps.mono (fun b z => ?_) _ _ racc⟩, fun j p e hj hz' => ?_⟩
      · rcases z with (z | z) | z
        · exact .inl z
        · exact .inr (.inr z)
        · exact .inr (.inl z)
      · obtain ⟨a, ea, u, _⟩ := st2.owns j p e hj
        have := (L2.wipe_some ea).1
        rw [hz'] at this
        cases this
        exact st2.dis Da u (.inr rfl)
  · cases e
end
end Sm
set_option Elab.async false
set_option linter.all false
set_option maxRecDepth 100000
set_option maxHeartbeats 1000000
/-! The layer: comprehensions as expressions, defs and their calls. -/
namespace Sm
open PySem PySem.Spec PyProof.Rows L2
section
variable {X : Cx} {C : Cn} {pos : Pos}
theorem Ax.blk (ax : Ax X) (s : Shared) (H : Hp) (scope : Scope) (cenv : Env) (fp : List Addr) : Ax (X.blk s H scope cenv fp) := ⟨ax.calm, ax.un, ax.py⟩
theorem ev_lc {elt tg iter : Expr} {ifs : List Expr} {scope : Scope} {own : List (Str × Nat)} {pos : Pos} {it : EvL} {ts : List Nat} {g : Tg} {c : EvB} {f : Ev} (hc : X.calm = true) (hN : X.N.Nodup) (hi : EvI X C tg iter it) (ok : BlkOk X.N X.env.scope scope own) (hts : ∀ j ∈ ts, j ∈ own.map (·.2))
    (hg : ∀ (B : AP) (s : Shared) (H : Hp) (Ca : Addr) (cl : List (Str × Addr)) (fp : List Addr), EvG (X.blk s H scope (compEnvC scope cl Ca X.env) fp) (C.wB B) tg ts g)
    (ht : ∀ (B : AP) (s : Shared) (H : Hp) (Ca : Addr) (cl : List (Str × Addr)) (fp : List Addr), EvTs (X.blk s H scope (compEnvC scope cl Ca X.env) fp) (C.wB B) ifs c)
    (he : ∀ (B : AP) (s : Shared) (H : Hp) (Ca : Addr) (cl : List (Str × Addr)) (fp : List Addr), EvE (X.blk s H scope (compEnvC scope cl Ca X.env) fp) (C.wB B) elt f) (hs : ∀ x, foldedSetIterable iter X.env x = pure x := by intro _; rfl) :
    EvE X C (.ListComp elt [⟨tg, iter, ifs, 0⟩] scope pos) (eLc (own.map (·.2)) it g c f) :=
  PE.weaken (pe_lc hc hN hi ok (fun s H Ca cl fp => PG.exB (t := fun B => tG X.K (C.wB B) ts g) fun B => hg B s H Ca cl fp) (fun s H Ca cl fp => PTs.exB (t := fun B => tT X.K (C.wB B) c) fun B => ht B s H Ca cl fp) (fun s H Ca cl fp => PE.exB (t := fun B => tE X.K (C.wB B) f) fun B => he B s H Ca cl fp) hs) (lc_ok hts)
theorem xs_setLc {i : Nat} {y : Str} {py : Pos} {elt tg iter : Expr} {ifs : List Expr} {scope : Scope} {own : List (Str × Nat)} {pos spos : Pos} {it : EvL} {ts : List Nat} {g : Tg} {c : EvB} {f : Ev} (hc : X.calm = true) (hN : X.N.Nodup) (hy : X.N[i]? = some y) (hyl : X.env.scope.names.lookup y = some .local)
    (hsw : swapsWith (.ListComp elt [⟨tg, iter, ifs, 0⟩] scope pos) (some (.Name y py)) spos.line X.env = pure true) (hi : EvI X C tg iter it) (ok : BlkOk X.N X.env.scope scope own) (hts : ∀ j ∈ ts, j ∈ own.map (·.2))
    (hg : ∀ (B : AP) (s : Shared) (H : Hp) (Ca : Addr) (cl : List (Str × Addr)) (fp : List Addr), EvG (X.blk s H scope (compEnvC scope cl Ca X.env) fp) (C.wB B) tg ts g)
    (ht : ∀ (B : AP) (s : Shared) (H : Hp) (Ca : Addr) (cl : List (Str × Addr)) (fp : List Addr), EvTs (X.blk s H scope (compEnvC scope cl Ca X.env) fp) (C.wB B) ifs c)
    (he : ∀ (B : AP) (s : Shared) (H : Hp) (Ca : Addr) (cl : List (Str × Addr)) (fp : List Addr), EvE (X.blk s H scope (compEnvC scope cl Ca X.env) fp) (C.wB B) elt f) (hs : ∀ x, foldedSetIterable iter X.env x = pure x := by intro _; rfl) :
    ExS X C (.Assign [.Name y py] (.ListComp elt [⟨tg, iter, ifs, 0⟩] scope pos) spos) (xSet i (eLc (own.map (·.2)) it g c f)) :=
  PS.weaken (ps_setLc hc hN hy hyl hsw hi ok (fun s H Ca cl fp => PG.exB (t := fun B => tG X.K (C.wB B) ts g) fun B => hg B s H Ca cl fp) (fun s H Ca cl fp => PTs.exB (t := fun B => tT X.K (C.wB B) c) fun B => ht B s H Ca cl fp) (fun s H Ca cl fp => PE.exB (t := fun B => tE X.K (C.wB B) f) fun B => he B s H Ca cl fp) hs)
    fun Dn σ H q => by
      obtain ⟨U, env, r, env', st, e, q⟩ := set_ok Dn σ H q
      exact lc_ok hts σ H _ ⟨U, env, r, env', st, e, q⟩
end

/-! ### promises -/
def Thr (H H' : Hp) : Prop := ∀ b, H b ≠ none → H' b ≠ none
def spP (K : PySem.W.Frag) (T : List (Addr × Str)) (n : Nat) (g : List D → Option D) : Sp := fun vs H Q _ => ∃ (Z : AP) (ds : List D) (r : D), vs.length = n ∧ g ds = some r ∧ LamX.Tabs T H ∧ (∀ a, Z a → H a ≠ none) ∧ Reps K H Z ds vs ∧
  ∀ v H', LamX.ExtN H H' → Thr H H' → LamX.Tabs T H' → Rep K H' Z r v → Q v H'
def spM (K : PySem.W.Frag) (T : List (Addr × Str)) (n : Nat) (g : D → List D → Option (D × D)) : Sp := fun vs H Q _ => ∃ (Z : AP) (a : Addr) (ws : List V) (c : D) (ds : List D) (r c' : D), vs = .ref a :: ws ∧ vs.length = n ∧ g c ds = some (r, c') ∧ LamX.Tabs T H ∧ (∀ b, Z b → H b ≠ none) ∧ ¬ Z a ∧
  OwnAt K H (Zo Z (· = a)) a c ∧ Reps K H (Zo Z (· = a)) ds ws ∧
  ∀ v H', (∀ b o, H b = some o → b ≠ a → (∀ ps, o ≠ .tbl ps) → H' b = some o) → Thr H H' → LamX.Tabs T H' → OwnAt K H' (Zo Z (· = a)) a c' → Rep K H' (Zo Z (· = a)) r v → Q v H'
def spS (K : PySem.W.Frag) (T : List (Addr × Str)) (g : List Int → Option D) : Sp := fun vs H Q _ => ∃ (Z : AP) (a : Addr) (ns : List Int) (r : D), vs = [.ref a] ∧ g ns = some r ∧ LamX.Tabs T H ∧ (∀ b, Z b → H b ≠ none) ∧ ScrL K H Z a (ns.map V.int) ∧
  ∀ v H', LamX.ExtN H H' → Thr H H' → LamX.Tabs T H' → Rep K H' Z r v → Q v H'
def retOf : Option (Fl × Env') → Option (D × Env')
  | some (.ret d, e) => some (d, e)
  | some (.nx, e) => some (.none, e)
  | _ => none
def runP (n m : Nat) (F : Ex) (ds : List D) : Option D := if ds.length = m then (retOf (F (ds.map Sl.val ++ List.replicate (n - m) Sl.no))).map (·.1) else none
def runM (n m : Nat) (F : Ex) (c : D) (ds : List D) : Option (D × D) := if ds.length + 1 = m then (retOf (F (Sl.own true c :: (ds.map Sl.val ++ List.replicate (n - m) Sl.no)))).bind fun a => match a.2[0]? with
    | some (Sl.own true c') => some (a.1, c')
    | _ => none
  else none
theorem runP_len {n m : Nat} {F : Ex} {ds : List D} {r : D} (h : runP n m F ds = some r) : ds.length = m := by
  unfold runP at h
  split at h
  · assumption
  · cases h
theorem runM_len {n m : Nat} {F : Ex} {c : D} {ds : List D} {r : D × D} (h : runM n m F c ds = some r) : ds.length + 1 = m := by
  unfold runM at h
  split at h
  · assumption
  · cases h
def runS (n : Nat) (F : Ex) (ns : List Int) : Option D := (retOf (F (Sl.scr ns :: List.replicate (n - 1) Sl.no))).map (·.1)

section
variable {P : Program} {w : World} {K : PySem.W.Frag} {mg : Str → Option Value} {base : Heap}
/-- a def of the top, and what is known of its code object -/
structure FunC (K : PySem.W.Frag) (x qual : Str) (st : Stmt) (f : Addr) (fd : FuncData) (cd : Value → Prop) : Prop where
  made : ∃ (oc : Value) (od : Option Addr) (kV doc pm : Value) (an : Option Addr) (cdv ct : Value) (osl : Array (Option Value)),
    fd = PySem.W.fnOf x qual (defArgs st) (defBody st) (defScope st) .none kV doc pm an cdv ct ∧ K.lookup f = some ⟨oc, od, .func fd, osl⟩ ∧ PySem.W.codeIn K cdv qual = true ∧ cd cdv
  kp : PySem.W.keepIn K (.ref f) = true
theorem FunC.goes {x qual : Str} {st : Stmt} {f : Addr} {fd : FuncData} {cd : Value → Prop} {N ps : List Str} {k : Nat} {sp : Sp} (F : FunC K x qual st f fd cd) (S : FnScope N ps (defScope st)) (len : ∀ vs H Q E, sp vs H Q E → vs.length = ps.length)
    (h : ∀ (cdv : Value), cd cdv → ∀ (A : Around) (outer : List Env) (s : Shared) (H : Hp) (vs : List V) (Q : VK) (E : XK), Room k (A.deeper (envOfC qual (defScope st) s.heap.objs.size f cdv)) → sp vs H Q E →
      ∃ t, PSs (cxOf CX0 P w K mg base N qual (defScope st) f cdv A outer s H E).nox (defBody st) t ∧ t { nx := fun _ H' => Q .non H', rt := Q } (start N vs) H) : FnOk P w K mg base CX0 (k + 1) f fd ps sp := by
  obtain ⟨_, _, _, _, _, _, cdv, _, _, rfl, lk, hcd, hc⟩ := F.made
  exact fn_of lk hcd S len fun A outer s H vs Q E hr hsp =>
    let ⟨t, ht, q⟩ := h cdv hc A outer s H vs Q E hr hsp
    ⟨t, ht.nox, q⟩
theorem FunC.bind {x qual : Str} {st : Stmt} {f : Addr} {fd : FuncData} {cd : Value → Prop} {ps : List Str} (F : FunC K x qual st f fd cd)
    (h : ∀ (kV doc pm : Value) (an : Option Addr) (cdv ct : Value) (us : List Value), us.length = ps.length → bindArgs (PySem.W.fnOf x qual (defArgs st) (defBody st) (defScope st) .none kV doc pm an cdv ct) ⟨us, []⟩ = pure (ps.zip us)) : Binds K fd ps [] := by
  obtain ⟨_, _, kV, doc, pm, an, cdv, ct, _, rfl, _⟩ := F.made
  exact .all (h kV doc pm an cdv ct)
/-- the body's promise, for all contexts of the def -/
def Body (P : Program) (w : World) (K : PySem.W.Frag) (mg : Str → Option Value) (base : Heap) (T : List (Addr × Str)) (k : Nat) (N : List Str) (qual : Str) (st : Stmt) (f : Addr) (cd : Value → Prop) (F : Ex) : Prop :=
  ∀ (cdv : Value), cd cdv → ∀ (A : Around) (outer : List Env) (s : Shared) (H : Hp) (E : XK), Room k (A.deeper (envOfC qual (defScope st) s.heap.objs.size f cdv)) → ∀ C : Cn, C.T = T → ExB (cxOf CX0 P w K mg base N qual (defScope st) f cdv A outer s H E).nox C (defBody st) F
theorem start_get {N : List Str} {vs : List V} {i : Nat} {v : V} (h : vs[i]? = some v) : (start N vs)[i]? = some (some v) := by
  unfold L2.start
  rw [List.getElem?_append_left (by rw [List.length_map]; exact lt_of_get h), List.getElem?_map, h]
  rfl
theorem env_get {ds : List D} {m i : Nat} {s : Sl} (h : (ds.map Sl.val ++ List.replicate m Sl.no)[i]? = some s) : (∃ d, s = .val d ∧ ds[i]? = some d) ∨ s = .no := by
  rcases Nat.lt_or_ge i ds.length with hl | hl
  · rw [List.getElem?_append_left (by rw [List.length_map]; exact hl), List.getElem?_map, List.getElem?_eq_getElem hl] at h
    cases h
    exact .inl ⟨_, rfl, List.getElem?_eq_getElem hl⟩
  · rw [List.getElem?_append_right (by rw [List.length_map]; exact hl)] at h
    have := List.mem_of_getElem? h
    rw [List.mem_replicate] at this
    exact .inr this.2
theorem fn_P {x qual : Str} {st : Stmt} {f : Addr} {fd : FuncData} {N ps : List Str} {k : Nat} {T : List (Addr × Str)} {cd : Value → Prop} {F : Ex} (Fu : FunC K x qual st f fd cd) (S : FnScope N ps (defScope st)) (hps : ps.length ≤ N.length) (b : Body P w K mg base T k N qual st f cd F) :
    FnOk P w K mg base CX0 (k + 1) f fd ps (spP K T ps.length (runP N.length ps.length F)) := by
  refine Fu.goes S (fun vs H Q E h => ?_) (fun cdv hcd A outer s H vs Q E hr h => ?_)
  · obtain ⟨_, _, _, h, _⟩ := h
    exact h
  · obtain ⟨Z, ds, r, hl, hg, ht, hZ, hR, q⟩ := h
    refine ⟨_, b cdv hcd A outer s H E hr ⟨Z, 0, T⟩ rfl, ?_⟩
    have hdl := runP_len hg
    unfold runP at hg
    rw [if_pos hdl, Option.map_eq_some_iff] at hg
    obtain ⟨⟨r', e'⟩, hg, rfl⟩ := hg
    have hlen := hR.length
    have hz : ∀ b, Zo Z (fun _ => False) b → Z b := fun b z => by
      rcases z with z | z
      · exact z.elim
      · exact z
    have st0 : Stt K ⟨Z, 0, T⟩ H (fun _ => False) (start N vs) (ds.map Sl.val ++ List.replicate (N.length - ps.length) Sl.no) := by
      refine ⟨?_, fun a u => u.elim, fun a u => u.elim, hZ, ht, fun i d e => ?_, fun i p d e => ?_, fun i ns e => ?_, fun i j p q d e a e1 => ?_⟩
      · unfold L2.start
        simp [hlen, hdl]
      · rcases env_get e with ⟨d', e1, e2⟩ | e1
        · cases e1
          obtain ⟨v, ev, rv⟩ := hR.get e2
          exact ⟨v, start_get ev, Rep.mono hz _ _ rv⟩
        · cases e1
      · rcases env_get e with ⟨d', e1, e2⟩ | e1 <;> cases e1
      · rcases env_get e with ⟨d', e1, e2⟩ | e1 <;> cases e1
      · rcases env_get e1 with ⟨d', e1, e2⟩ | e1 <;> cases e1
    have fin : ∀ σ' H' U', Stp H (fun _ => False) H' U' → Stt K ⟨Z, 0, T⟩ H' U' σ' e' → ∀ v, Rep K H' (Zo Z U') r' v → Q v H' := fun σ' H' U' s' st' v rv => by
      refine q v H' (fun b o e n => s'.keep b o e (fun z => z) n) s'.there st'.tabs (Rep.mono (fun b z => .inr z) _ _ rv)
    unfold retOf at hg
    split at hg
    · rename_i d e he
      obtain ⟨rfl, rfl⟩ := Prod.mk.inj (Option.some.inj hg)
      exact ⟨_, _, _, _, st0, he, fin⟩
    · rename_i e he
      obtain ⟨rfl, rfl⟩ := Prod.mk.inj (Option.some.inj hg)
      exact ⟨_, _, _, _, st0, he, fun σ' H' U' s' st' => fin σ' H' U' s' st' .non rfl⟩
    · cases hg
theorem fn_M {x qual : Str} {st : Stmt} {f : Addr} {fd : FuncData} {N ps : List Str} {k : Nat} {T : List (Addr × Str)} {cd : Value → Prop} {F : Ex} (Fu : FunC K x qual st f fd cd) (S : FnScope N ps (defScope st)) (hps : ps.length ≤ N.length) (b : Body P w K mg base T k N qual st f cd F) :
    FnOk P w K mg base CX0 (k + 1) f fd ps (spM K T ps.length (runM N.length ps.length F)) := by
  refine Fu.goes S (fun vs H Q E h => ?_) (fun cdv hcd A outer s H vs Q E hr h => ?_)
  · obtain ⟨_, _, _, _, _, _, _, _, h, _⟩ := h
    exact h
  · obtain ⟨Z, a, ws, c, ds, r, c', rfl, hl, hg, ht, hZ, hnZ, hO, hR, q⟩ := h
    refine ⟨_, b cdv hcd A outer s H E hr ⟨Z, a, T⟩ rfl, ?_⟩
    have hdl := runM_len hg
    unfold runM at hg
    rw [if_pos hdl, Option.bind_eq_some_iff] at hg
    obtain ⟨⟨r', e'⟩, hg, hg2⟩ := hg
    have hlen := hR.length
    have st0 : Stt K ⟨Z, a, T⟩ H (· = a) (start N (.ref a :: ws)) (Sl.own true c :: (ds.map Sl.val ++ List.replicate (N.length - ps.length) Sl.no)) := by
      refine ⟨?_, fun b u => ?_, fun b u z => ?_, hZ, ht, fun i d e => ?_, fun i p d e => ?_, fun i ns e => ?_, fun i j p q d e b e1 e2 e3 e4 => ?_⟩
      · unfold L2.start
        simp only [List.length_cons] at hl
        simp [hlen]
        omega
      · cases c with
        | list cs =>
          obtain ⟨vs, e, _⟩ := hO
          exact ⟨vs, by rw [u]; exact e⟩
        | _ => exact hO.elim
      · rw [u] at z
        exact hnZ z
      · cases i with
        | zero => cases e
        | succ i =>
          rw [List.getElem?_cons_succ] at e
          rcases env_get e with ⟨d', e1, e2⟩ | e1
          · cases e1
            obtain ⟨v, ev, rv⟩ := hR.get e2
            exact ⟨v, start_get (by rw [List.getElem?_cons_succ]; exact ev), rv⟩
          · cases e1
      · cases i with
        | zero =>
          cases e
          exact ⟨a, start_get rfl, rfl, hO, fun _ => rfl⟩
        | succ i =>
          rw [List.getElem?_cons_succ] at e
          rcases env_get e with ⟨d', e1, e2⟩ | e1 <;> cases e1
      · cases i with
        | zero => cases e
        | succ i =>
          rw [List.getElem?_cons_succ] at e
          rcases env_get e with ⟨d', e1, e2⟩ | e1 <;> cases e1
      · have h0 : ∀ (i : Nat) (p : Bool) (d : D), (Sl.own true c :: (ds.map Sl.val ++ List.replicate (N.length - ps.length) Sl.no))[i]? = some (Sl.own p d) → i = 0 := fun i p d e => by
          cases i with
          | zero => rfl
          | succ i =>
            rw [List.getElem?_cons_succ] at e
            rcases env_get e with ⟨d', e1, e2⟩ | e1 <;> cases e1
        rw [h0 i _ _ e1, h0 j _ _ e2]
    simp only at hg2
    split at hg2
    · rename_i c2 hc2
      obtain ⟨rfl, rfl⟩ := Prod.mk.inj (Option.some.inj hg2)
      have fin : ∀ σ' H' U', Stp H (· = a) H' U' → Stt K ⟨Z, a, T⟩ H' U' σ' e' → ∀ v, Rep K H' (Zo Z U') r' v → Q v H' := fun σ' H' U' s' st' v rv => by
        obtain ⟨b, eb, ub, ob, hb⟩ := st'.owns 0 true _ hc2
        have eb' : b = a := hb rfl
        subst eb'
        have hz : ∀ x, Zo Z (· = b) x → Zo Z U' x := fun x z => by
          rcases z with z | z
          · exact .inl (by rw [z]; exact ub)
          · exact .inr z
        exact q v H' (fun x o e n t => s'.keep x o e n t) s'.there st'.tabs (ob.mono hz) (Rep.mono hz _ _ rv)
      unfold retOf at hg
      split at hg
      · rename_i d e he
        obtain ⟨rfl, rfl⟩ := Prod.mk.inj (Option.some.inj hg)
        exact ⟨_, _, _, _, st0, he, fin⟩
      · rename_i e he
        obtain ⟨rfl, rfl⟩ := Prod.mk.inj (Option.some.inj hg)
        exact ⟨_, _, _, _, st0, he, fun σ' H' U' s' st' => fin σ' H' U' s' st' .non rfl⟩
      · cases hg
    · cases hg2
theorem fn_S {x qual : Str} {st : Stmt} {f : Addr} {fd : FuncData} {N : List Str} {p0 : Str} {k : Nat} {T : List (Addr × Str)} {cd : Value → Prop} {F : Ex} (Fu : FunC K x qual st f fd cd) (S : FnScope N [p0] (defScope st)) (hps : 1 ≤ N.length) (b : Body P w K mg base T k N qual st f cd F) :
    FnOk P w K mg base CX0 (k + 1) f fd [p0] (spS K T (runS N.length F)) := by
  refine Fu.goes S (fun vs H Q E h => ?_) (fun cdv hcd A outer s H vs Q E hr h => ?_)
  · obtain ⟨_, _, _, _, rfl, _⟩ := h
    rfl
  · obtain ⟨Z, a, ns, r, rfl, hg, ht, hZ, hS, q⟩ := h
    refine ⟨_, b cdv hcd A outer s H E hr ⟨Z, 0, T⟩ rfl, ?_⟩
    unfold runS at hg
    rw [Option.map_eq_some_iff] at hg
    obtain ⟨⟨r', e'⟩, hg, rfl⟩ := hg
    have h0 : ∀ (i : Nat) (s : Sl), (Sl.scr ns :: List.replicate (N.length - 1) Sl.no)[i]? = some s → (i = 0 ∧ s = .scr ns) ∨ s = .no := fun i s e => by
      cases i with
      | zero =>
        cases e
        exact .inl ⟨rfl, rfl⟩
      | succ i =>
        rw [List.getElem?_cons_succ] at e
        have := List.mem_of_getElem? e
        rw [List.mem_replicate] at this
        exact .inr this.2
    have st0 : Stt K ⟨Z, 0, T⟩ H (fun _ => False) (start N [.ref a]) (Sl.scr ns :: List.replicate (N.length - 1) Sl.no) := by
      refine ⟨?_, fun a u => u.elim, fun a u => u.elim, hZ, ht, fun i d e => ?_, fun i p d e => ?_, fun i ns' e => ?_, fun i j p q d e a e1 => ?_⟩
      · unfold L2.start
        simp
      · rcases h0 i _ e with ⟨_, z⟩ | z <;> cases z
      · rcases h0 i _ e with ⟨_, z⟩ | z <;> cases z
      · rcases h0 i _ e with ⟨rfl, z⟩ | z
        · cases z
          exact ⟨a, start_get rfl, hS.mono (fun b z => by rcases z with z | z; exact z.elim; exact z)⟩
        · cases z
      · rcases h0 i _ e1 with ⟨_, z⟩ | z <;> cases z
    have fin : ∀ σ' H' U', Stp H (fun _ => False) H' U' → Stt K ⟨Z, 0, T⟩ H' U' σ' e' → ∀ v, Rep K H' (Zo Z U') r' v → Q v H' := fun σ' H' U' s' st' v rv => by
      refine q v H' (fun b o e n => s'.keep b o e (fun z => z) n) s'.there st'.tabs (Rep.mono (fun b z => .inr z) _ _ rv)
    unfold retOf at hg
    split at hg
    · rename_i d e he
      obtain ⟨rfl, rfl⟩ := Prod.mk.inj (Option.some.inj hg)
      exact ⟨_, _, _, _, st0, he, fin⟩
    · rename_i e he
      obtain ⟨rfl, rfl⟩ := Prod.mk.inj (Option.some.inj hg)
      exact ⟨_, _, _, _, st0, he, fun σ' H' U' s' st' => fin σ' H' U' s' st' .non rfl⟩
    · cases hg
end
end Sm
set_option Elab.async false
set_option linter.all false
set_option maxRecDepth 100000
set_option maxHeartbeats 1000000
/-! The layer: calls of defs; what a body's context gives; the law's end. -/
namespace Sm
open PySem PySem.Spec PyProof.Rows L2
section
variable {K : PySem.W.Frag} {C : Cn} {H : Hp} {U : AP} {σ : L2.St} {env : Env'}
theorem ext_stp {H' : Hp} (e : LamX.ExtN H H') (t : Thr H H') : Stp H U H' U := ⟨fun b o h _ n => e b o h n, fun b u => .inl u, t⟩
theorem Stt.ext {H' : Hp} (S : Stt K C H U σ env) (e : LamX.ExtN H H') (t : Thr H H') (tb : LamX.Tabs C.T H') : Stt K C H' U σ env := by
  have s : Stp H U H' U := ext_stp e t
  refine ⟨S.len, fun a u => ?_, S.dis, fun a b => t a (S.domB a b), tb, fun i d e1 => ?_, fun i p d e1 => ?_, fun i ns e1 => ?_, S.inj⟩
  · obtain ⟨vs, h⟩ := S.dom a u
    exact ⟨vs, e a _ h (fun ps z => by cases z)⟩
  · obtain ⟨v, ev, r⟩ := S.vals i d e1
    exact ⟨v, ev, Rep.stp S.dom s _ _ r⟩
  · obtain ⟨a, ea, u, o, q⟩ := S.owns i p d e1
    refine ⟨a, ea, u, ?_, q⟩
    cases d with
    | list ds =>
      obtain ⟨vs, h, r⟩ := o
      exact ⟨vs, e a _ h (fun ps z => by cases z), Reps.stp S.dom s _ _ r⟩
    | _ => exact o.elim
  · obtain ⟨a, ea, r⟩ := S.scrs i ns e1
    exact ⟨a, ea, scrL_stp S.dom s r⟩
/-- behind a call that changed what slot i owns -/
theorem Stt.mutX {H' : Hp} (S : Stt K C H U σ env) {i : Nat} {p : Bool} {d d' : D} {a : Addr} (he : env[i]? = some (Sl.own p d)) (hσ : σ[i]? = some (some (V.ref a)))
    (k : ∀ b o, H b = some o → b ≠ a → (∀ ps, o ≠ .tbl ps) → H' b = some o) (t : Thr H H') (tb : LamX.Tabs C.T H') (o' : OwnAt K H' (Zo C.B U) a d') :
    Stp H U H' U ∧ Stt K C H' U σ (env.set i (.own p d')) := by
  obtain ⟨a', e1, u, o, hp⟩ := S.owns i p d he
  rw [hσ] at e1
  cases e1
  have hi : i < env.length := lt_of_get he
  have s : Stp H U H' U := ⟨fun b o e n tt => k b o e (fun z => n (by rw [z]; exact u)) tt, fun b u => .inl u, t⟩
  refine ⟨s, ⟨by simp [S.len], fun b ub => ?_, S.dis, fun b ub => t b (S.domB b ub), tb, fun j d1 e => ?_, fun j p1 d1 e => ?_, fun j ns e => ?_, fun j k' p1 q1 d1 d2 b e1 e2 e3 e4 => ?_⟩⟩
  · by_cases z : b = a
    · cases d' with
      | list ds =>
        obtain ⟨vs, h, _⟩ := o'
        exact ⟨vs, by rw [z]; exact h⟩
      | _ => exact o'.elim
    · obtain ⟨vs, h⟩ := S.dom b ub
      exact ⟨vs, k b _ h z (fun ps z => by cases z)⟩
  · by_cases hj : j = i
    · subst hj
      rw [List.getElem?_set_self hi] at e
      cases e
    · rw [List.getElem?_set_ne (Ne.symm hj)] at e
      obtain ⟨v, ev, rv⟩ := S.vals j d1 e
      exact ⟨v, ev, Rep.stp S.dom s _ _ rv⟩
  · by_cases hj : j = i
    · subst hj
      rw [List.getElem?_set_self hi] at e
      cases e
      exact ⟨a, hσ, u, o', hp⟩
    · rw [List.getElem?_set_ne (Ne.symm hj)] at e
      obtain ⟨b, eb, ub, ob, hb⟩ := S.owns j p1 d1 e
      refine ⟨b, eb, ub, ?_, hb⟩
      have nb : b ≠ a := fun z => hj (S.inj j i _ _ _ _ b e he eb (by rw [z]; exact hσ))
      cases d1 with
      | list ds1 =>
        obtain ⟨vs, ev, rv⟩ := ob
        exact ⟨vs, k b _ ev nb (fun ps z => by cases z), Reps.stp S.dom s _ _ rv⟩
      | _ => exact ob.elim
  · by_cases hj : j = i
    · subst hj
      rw [List.getElem?_set_self hi] at e
      cases e
    · rw [List.getElem?_set_ne (Ne.symm hj)] at e
      obtain ⟨b, eb, rb⟩ := S.scrs j ns e
      exact ⟨b, eb, scrL_stp S.dom s rb⟩
  · have f : ∀ (j : Nat) (p1 : Bool) (d1 : D), (env.set i (.own p d'))[j]? = some (Sl.own p1 d1) → ∃ p2 d2, env[j]? = some (Sl.own p2 d2) := fun j p1 d1 e => by
      by_cases hj : j = i
      · subst hj; exact ⟨_, _, he⟩
      · rw [List.getElem?_set_ne (Ne.symm hj)] at e
        exact ⟨_, _, e⟩
    obtain ⟨_, _, f1⟩ := f _ _ _ e1
    obtain ⟨_, _, f2⟩ := f _ _ _ e2
    exact S.inj _ _ _ _ _ _ b f1 f2 e3 e4
end
section
variable {X : Cx} {C : Cn} {pos : Pos} {k n : Nat} {f : Addr} {fd : FuncData} {ps : List Str} {x : Str} {p : Pos} {e : Expr} {es : List Expr} {a : EvA}
def eCall (g : List D → Option D) (a : EvA) : Ev := fun env => (a env).bind fun b => (frzL b.2 b.1).bind fun c => (g c.1).map fun r => (.val r, c.2)
theorem call_ok {K : PySem.W.Frag} {T : List (Addr × Str)} {g : List D → Option D} (hT : C.T = T) (hn : ∀ ds r, g ds = some r → ds.length = n) : ∀ σ H Q, tE K C (eCall g a) σ H Q → tCall (spP K T n g) [] E0 (tA K C a) σ H Q := fun σ H Q ⟨U, env, r, env', st, e, q⟩ => by
  simp only [eCall, Option.bind_eq_some_iff, Option.map_eq_some_iff] at e
  obtain ⟨⟨rs, e1⟩, hf, ⟨ds, e2⟩, hd, r', hg, e⟩ := e
  obtain ⟨rfl, rfl⟩ := Prod.mk.inj e
  refine ⟨U, env, rs, e1, st, hf, fun vs H1 U1 s1 st1 r1 => ?_⟩
  obtain ⟨U2, s2, st2, r2⟩ := frzL_ok st1 r1 hd
  rw [List.append_nil]
  refine ⟨Zo C.B U2, ds, r', by rw [r2.length]; exact hn ds r' hg, hg, by rw [← hT]; exact st2.tabs, fun b z => ?_, r2, fun v H' ex th tb rv => ?_⟩
  · rcases z with z | z
    · obtain ⟨ws, h⟩ := st2.dom b z
      rw [h]; simp
    · exact st2.domB b z
  · exact q v H' U2 ((s1.trans s2).trans (ext_stp ex th)) (st2.ext ex th (by rw [hT]; exact tb)) rv
theorem ev_call {g : List D → Option D} {T : List (Addr × Str)} (hT : C.T = T) (F : FnOk X.prog X.w X.K X.mg X.base CX0 k f fd ps (spP X.K T n g)) (hn : ∀ ds r, g ds = some r → ds.length = n) (hr : Room k X.A) (hg : Gl X x) (hm : X.mg x = some (.ref f)) (hk : PySem.W.keepIn X.K (.ref f) = true) (hb : Binds X.K fd ps [])
    (ha : EvAs X C (e :: es) a) (hdb : (x == ("__debug__" : Str)) = false := by decide) (he : starEach (e :: es) X.env = (false, eval e X.env) :: starEach es X.env := by rfl) (hpl : (backTo pos (starEach es X.env)).any (·.1) = false := by rfl) :
    EvE X C (.Call (.Name x p) (e :: es) [] pos) (eCall g a) := PE.weaken (pe_call F hr hg hm hk hb .nil pass0 ha hdb he hpl) (call_ok hT hn)
/-- a call whose first argument is changed -/
def eCallM (g : D → List D → Option (D × D)) (a : EvA) : Ev := fun env => (a env).bind fun b => match b.1 with
  | .var i :: rs => (frzL b.2 rs).bind fun c => match c.2[i]? with
    | some (.own p d) => (g d c.1).map fun r => (.val r.1, c.2.set i (.own p r.2))
    | _ => none
  | _ => none
theorem callM_ok {K : PySem.W.Frag} {T : List (Addr × Str)} {g : D → List D → Option (D × D)} (hT : C.T = T) (hn : ∀ d ds r, g d ds = some r → ds.length + 1 = n) : ∀ σ H Q, tE K C (eCallM g a) σ H Q → tCall (spM K T n g) [] E0 (tA K C a) σ H Q := fun σ H Q ⟨U, env, r, env', st, e, q⟩ => by
  simp only [eCallM, Option.bind_eq_some_iff] at e
  obtain ⟨⟨rs, e1⟩, hf, e⟩ := e
  simp only at e
  split at e
  · rename_i i rs' 
    rw [Option.bind_eq_some_iff] at e
    obtain ⟨⟨ds, e2⟩, hd, e⟩ := e
    simp only at e
    split at e
    · rename_i pp d hdd
      rw [Option.map_eq_some_iff] at e
      obtain ⟨⟨r', d'⟩, hg, e⟩ := e
      obtain ⟨rfl, rfl⟩ := Prod.mk.inj e
      refine ⟨U, env, _, e1, st, hf, fun vs H1 U1 s1 st1 r1 => ?_⟩
      obtain ⟨v0, t, rfl, r0, r1'⟩ := r1
      obtain ⟨U2, s2, st2, r2⟩ := frzL_ok st1 r1' hd
      obtain ⟨ad, ea, u, oo, _⟩ := st2.owns i pp d hdd
      have r0' : σ[i]? = some (some v0) := r0
      rw [r0'] at ea
      cases ea
      have hz : ∀ b, Zo (Zo C.B fun b => U2 b ∧ b ≠ ad) (· = ad) b → Zo C.B U2 b := fun b z => by
        rcases z with z | z | z
        · exact .inl (by rw [z]; exact u)
        · exact .inl z.1
        · exact .inr z
      have hz2 : ∀ b, Zo C.B U2 b → Zo (Zo C.B fun b => U2 b ∧ b ≠ ad) (· = ad) b := fun b z => by
        by_cases hb : b = ad
        · exact .inl hb
        · rcases z with z | z
          · exact .inr (.inl ⟨z, hb⟩)
          · exact .inr (.inr z)
      rw [List.append_nil]
      refine ⟨Zo C.B fun b => U2 b ∧ b ≠ ad, ad, t, d, ds, r', d', rfl, by rw [List.length_cons, r2.length]; exact hn d ds _ hg, hg, by rw [← hT]; exact st2.tabs, fun b z => ?_, fun z => ?_, oo.mono hz, Reps.mono hz _ _ r2, fun v H' ex th tb ro rv => ?_⟩
      · rcases z with z | z
        · obtain ⟨ws, h⟩ := st2.dom b z.1
          rw [h]; simp
        · exact st2.domB b z
      · rcases z with z | z
        · exact z.2 rfl
        · exact st2.dis ad u z
      · obtain ⟨s3, st3⟩ := st2.mutX hdd r0' ex th (by rw [hT]; exact tb) (ro.mono hz2)
        exact q v H' U2 ((s1.trans s2).trans s3) st3 (Rep.mono hz2 _ _ rv)
    · cases e
  · cases e
theorem ev_callM {g : D → List D → Option (D × D)} {T : List (Addr × Str)} (hT : C.T = T) (F : FnOk X.prog X.w X.K X.mg X.base CX0 k f fd ps (spM X.K T n g)) (hn : ∀ d ds r, g d ds = some r → ds.length + 1 = n) (hr : Room k X.A) (hg : Gl X x) (hm : X.mg x = some (.ref f)) (hk : PySem.W.keepIn X.K (.ref f) = true) (hb : Binds X.K fd ps [])
    (ha : EvAs X C (e :: es) a) (hdb : (x == ("__debug__" : Str)) = false := by decide) (he : starEach (e :: es) X.env = (false, eval e X.env) :: starEach es X.env := by rfl) (hpl : (backTo pos (starEach es X.env)).any (·.1) = false := by rfl) :
    EvE X C (.Call (.Name x p) (e :: es) [] pos) (eCallM g a) := PE.weaken (pe_call F hr hg hm hk hb .nil pass0 ha hdb he hpl) (callM_ok hT hn)
/-- a call that hands on the script -/
def eCallS (g : List Int → Option D) (i : Nat) : Ev := fun env => match env[i]? with
  | some (.scr ns) => (g ns).map fun r => (.val r, env)
  | _ => none
theorem ev_callS {g : List Int → Option D} {T : List (Addr × Str)} {i : Nat} {y : Str} {py : Pos} (hT : C.T = T) (F : FnOk X.prog X.w X.K X.mg X.base CX0 k f fd ps (spS X.K T g)) (hr : Room k X.A) (hg : Gl X x) (hm : X.mg x = some (.ref f)) (hk : PySem.W.keepIn X.K (.ref f) = true) (hb : Binds X.K fd ps [])
    (ha : PE X (.Name y py) (tVar i)) (hdb : (x == ("__debug__" : Str)) = false := by decide) (he : starEach [.Name y py] X.env = (false, eval (.Name y py) X.env) :: starEach [] X.env := by rfl) (hpl : (backTo pos (starEach [] X.env)).any (·.1) = false := by rfl) :
    EvE X C (.Call (.Name x p) [.Name y py] [] pos) (eCallS g i) := PE.weaken (pe_call F hr hg hm hk hb .nil pass0 (pa_cons ha pa_nil he) hdb he hpl) fun σ H Q ⟨U, env, r, env', st, e, q⟩ => by
  unfold eCallS at e
  split at e
  · rename_i ns hn
    rw [Option.map_eq_some_iff] at e
    obtain ⟨r', hg', e⟩ := e
    obtain ⟨rfl, rfl⟩ := Prod.mk.inj e
    obtain ⟨ad, ea, hs⟩ := st.scrs i ns hn
    refine ⟨_, ea, Zo C.B U, ad, ns, r', rfl, hg', by rw [← hT]; exact st.tabs, fun b z => ?_, hs, fun v H' ex th tb rv => ?_⟩
    · rcases z with z | z
      · obtain ⟨ws, h⟩ := st.dom b z
        rw [h]; simp
      · exact st.domB b z
    · exact q v H' U (ext_stp ex th) (st.ext ex th (by rw [hT]; exact tb)) rv
  · cases e
end

/-! ### what a body's context gives -/
theorem ax_of {P : Program} {w : World} {K : PySem.W.Frag} {mg : Str → Option Value} {base : Heap} {N : List Str} {qual : Str} {scope : Scope} {f : Addr} {cdv : Value} {A : Around} {outer : List Env} {s : Shared} {H : Hp} {E : XK} {k : Nat}
    (hr : Room k (A.deeper (envOfC qual scope s.heap.objs.size f cdv))) (hk : 40 ≤ k) (hN : base.NoSeer) (ht : P.given.tree = none) (hgen : scope.isGenerator = false) (hco : scope.isCoroutine = false) :
    Ax (cxOf CX0 P w K mg base N qual scope f cdv A outer s H E).nox := by
  refine ⟨rfl, hr.units, fun s' hl hk' hf => ?_⟩
  have e1 : (A.deeper (envOfC qual scope s.heap.objs.size f cdv)).frames = some (envOfC qual scope s.heap.objs.size f cdv :: outer) := hf
  refine PylongRoom.of (hl.keeps hk') ?_ (SeerAt.of (hN.keeps hk') ht e1 hgen hco rfl rfl)
  have := hr.dp
  have e : Builtin.pylongFrames = 100 := rfl
  show (A.deeper (envOfC qual scope s.heap.objs.size f cdv)).depth + Builtin.pylongFrames < recursionLimit
  omega
end Sm
set_option Elab.async false
set_option linter.all false
set_option maxRecDepth 100000
set_option maxHeartbeats 1000000
/-! The layer: the law's end, with what a division by great ints asks of the base. -/
namespace Sm
open PySem PySem.Spec PyProof.Rows L2
theorem look_mem {L : PySem.W.Frag} {a : Addr} {o : Obj} : L.lookup a = some o → (a, o) ∈ L := by
  induction L with
  | nil => intro h; cases h
  | cons p r ih =>
    obtain ⟨k, v⟩ := p
    intro h
    rw [List.lookup_cons] at h
    cases hb : a == k with
    | true =>
      rw [hb] at h
      cases h
      obtain rfl : a = k := eq_of_beq hb
      exact List.mem_cons_self
    | false =>
      rw [hb] at h
      exact List.mem_cons_of_mem _ (ih h)
theorem mem_look {L : PySem.W.Frag} {a : Addr} {o : Obj} : (a, o) ∈ L → ∃ o', L.lookup a = some o' := by
  induction L with
  | nil => intro h; cases h
  | cons p r ih =>
    obtain ⟨k, v⟩ := p
    intro h
    rw [List.lookup_cons]
    cases hb : a == k with
    | true => exact ⟨v, rfl⟩
    | false =>
      rcases List.mem_cons.mp h with z | z
      · cases z
        rw [beq_self_eq_true] at hb
        cases hb
      · exact ih z
theorem look_app {K L : PySem.W.Frag} {a : Addr} {o : Obj} (h : K.lookup a = some o) : (K ++ L).lookup a = some o := by
  rw [List.lookup_append, h]
  rfl
theorem codeIn_app {K L : PySem.W.Frag} {cd : Value} {q : Str} (h : PySem.W.codeIn K cd q = true) : PySem.W.codeIn (K ++ L) cd q = true := by
  unfold PySem.W.codeIn at h ⊢
  cases cd with
  | ref c =>
    cases hl : K.lookup c with
    | none =>
      simp only [hl] at h
      cases h
    | some o =>
      simp only [hl] at h
      simp only [look_app hl]
      exact h
  | _ => cases h
theorem codeHdIn_app {K L : PySem.W.Frag} {c P : Addr} (h : PySem.W.codeHdIn K c P = true) : PySem.W.codeHdIn (K ++ L) c P = true := by
  unfold PySem.W.codeHdIn at h ⊢
  cases hl : K.lookup c with
  | none =>
    simp only [hl] at h
    cases h
  | some o =>
    simp only [hl] at h
    simp only [look_app hl]
    exact h
theorem keepF_app {K L : PySem.W.Frag} {f : Addr} {oc : Value} {od : Option Addr} {fd : FuncData} {osl : Array (Option Value)} (l : K.lookup f = some ⟨oc, od, .func fd, osl⟩) : PySem.W.keepIn (K ++ L) (.ref f) = true := by
  unfold PySem.W.keepIn
  simp only [look_app l]
theorem funC_app {K L : PySem.W.Frag} {x qual : Str} {st : Stmt} {f : Addr} {oc : Value} {od an : Option Addr} {osl : Array (Option Value)} {kV doc pm cdv ct : Value} {cd : Value → Prop} (l : K.lookup f = some ⟨oc, od, .func (PySem.W.fnOf x qual (defArgs st) (defBody st) (defScope st) .none kV doc pm an cdv ct), osl⟩)
    (c : PySem.W.codeIn K cdv qual = true) (hc : cd cdv) : FunC (K ++ L) x qual st f (PySem.W.fnOf x qual (defArgs st) (defBody st) (defScope st) .none kV doc pm an cdv ct) cd :=
  ⟨⟨oc, od, kV, doc, pm, an, cdv, ct, osl, rfl, look_app l, codeIn_app c, hc⟩, keepF_app l⟩
/-- the objects that say that nobody listens, put into the written part -/
theorem seer_frag {K : PySem.W.Frag} {h : Heap} (KX : K.In h) (N : h.NoSeer) :
    ∃ L : PySem.W.Frag, (K ++ L).In h ∧ (∀ base : Heap, (K ++ L).In base → base.NoSeer) ∧ ∀ P, h.get? P = some (PySem.W.tabObj #[]) → K.lookup P = none → (K ++ L).lookup P = none := by
  obtain ⟨mc, nc, c1, c2⟩ := N.statics
  obtain ⟨mm, nm, m1⟩ := N.mods
  obtain ⟨mb, nb, b1⟩ := N.imp
  obtain ⟨mg, bm, ob, ng, g1, g2, g3, g4⟩ := N.main
  obtain ⟨oc, ec, pc, hc, dc, rc⟩ := nc
  obtain ⟨om, em, pm, hm, dm, rm⟩ := nm
  obtain ⟨o3, e3, p3, h3, d3, r3⟩ := nb
  obtain ⟨o4, e4, p4, h4, d4, r4⟩ := ng
  let L : PySem.W.Frag := [(cStatics, oc), (sysModules, om), (builtinsNs, o3), (mainGlobals, o4), (bm, ob)]
  have hL : ∀ a o, L.lookup a = some o → h.get? a = some o := fun a o e => by
    have z := look_mem e
    simp only [L, List.mem_cons, List.mem_nil_iff, or_false, Prod.mk.injEq, List.not_mem_nil] at z
    rcases z with ⟨rfl, rfl⟩ | ⟨rfl, rfl⟩ | ⟨rfl, rfl⟩ | ⟨rfl, rfl⟩ | ⟨rfl, rfl⟩ <;> assumption
  have hin : (K ++ L).In h := fun a o e => by
    rw [List.lookup_append] at e
    cases hk : K.lookup a with
    | some o' =>
      rw [hk] at e
      cases e
      exact KX a _ hk
    | none =>
      rw [hk] at e
      exact hL a o e
  have hb : ∀ base : Heap, (K ++ L).In base → ∀ a o, (a, o) ∈ L → base.get? a = some o := fun base B a o hm => by
    obtain ⟨o', e1⟩ := mem_look hm
    have e2 : h.get? a = some o := by
      simp only [L, List.mem_cons, List.mem_nil_iff, or_false, Prod.mk.injEq, List.not_mem_nil] at hm
      rcases hm with ⟨rfl, rfl⟩ | ⟨rfl, rfl⟩ | ⟨rfl, rfl⟩ | ⟨rfl, rfl⟩ | ⟨rfl, rfl⟩ <;> assumption
    cases hk : K.lookup a with
    | some o2 =>
      have e3 := KX a _ hk
      rw [e2] at e3
      cases e3
      exact B a _ (look_app hk)
    | none =>
      have e3 := hL a o' e1
      rw [e2] at e3
      cases e3
      refine B a _ ?_
      rw [List.lookup_append, hk]
      exact e1
  refine ⟨L, hin, fun base B => ?_, fun P hP hk => ?_⟩
  · have q := hb base B
    refine ⟨⟨mc, ⟨oc, ec, pc, q _ _ (by simp [L]), dc, rc⟩, c1, c2⟩, ⟨mm, ⟨om, em, pm, q _ _ (by simp [L]), dm, rm⟩, m1⟩, ⟨mb, ⟨o3, e3, p3, q _ _ (by simp [L]), d3, r3⟩, b1⟩, ⟨mg, bm, ob, ⟨o4, e4, p4, q _ _ (by simp [L]), d4, r4⟩, g1, q _ _ (by simp [L]), g3, g4⟩⟩
  · rw [List.lookup_append, hk]
    cases e : L.lookup P with
    | none => rfl
    | some o =>
      exfalso
      have z := look_mem e
      simp only [L, List.mem_cons, List.mem_nil_iff, or_false, Prod.mk.injEq, List.not_mem_nil] at z
      rcases z with ⟨rfl, rfl⟩ | ⟨rfl, rfl⟩ | ⟨rfl, rfl⟩ | ⟨rfl, rfl⟩ | ⟨rfl, rfl⟩
      · rw [hc] at hP; cases hP; cases dc
      · rw [hm] at hP; cases hP; cases dm
      · rw [h3] at hP; cases hP; cases d3
      · rw [h4] at hP; cases hP; cases d4
      · rw [g2] at hP; cases hP; cases g3
theorem walk_seer {l : PySem.W.OpenLaw} {n k : Nat} {q : Program} {loose : List Str} {XP : (Str → Option Value) → Heap → Prop} {YP : World → Heap → Prop} {d : DefRec} {x : Str}
    (hn : l.most = some n) (hn2 : n ≤ sizeLine) (hdf : d.params.defaults = []) (hr : Room k callerA) (hi : importsNone q = true)
    (F : ∀ (w : World) (mg : Str → Option Value) (fa : Addr) (h : Heap), YP w h → h.Ns mainGlobals mg → mg d.name = some (.ref fa) → h.NoSeer → ∃ K : PySem.W.Frag, K.In h ∧ LamX.LawAtS l w K CX0 k n x mg fa h) :
    PySem.W.WalkO q loose XP YP l.row.toRowW d [] (fun f vs => PySem.call f vs) :=
  Att.attach_callB hn hdf fun w s₀ s₁ mg mb fa o pm cd doc a vs ns G Y ho hd hcd hmg hobj hints hlen hbits hg =>
    let ⟨K, KX, fd, cs, sp, hT, nT, C, hb, hsp, hF⟩ := F w mg fa _ Y G.T.g hmg (G.T.seer hi)
    LamX.law_callTs KX G.T.g G.T.b G.T.builtins G.T.nolimit hg hT nT C G.T.bmain hobj hints (Nat.le_trans hlen hn2) hr hF hb (fun H hH hS => hsp H a ns hlen hbits hH hS) fun H e s' h => h
end Sm
set_option Elab.async false
set_option linter.all false
set_option maxRecDepth 100000
set_option maxHeartbeats 1000000
/-! The layer: isinstance. -/
namespace Sm
open PySem PySem.Spec PyProof.Rows L2
def tyD : D → Option String
  | .none => some "NoneType"
  | .bool _ => some "bool"
  | .int _ => some "int"
  | .str _ => some "str"
  | .list _ => some "list"
  | .tuple _ => some "tuple"
  | .dict _ => none
def anyK (t : String) : List String → Option Bool
  | [] => some false
  | n :: ns => (kitB t n).bind fun b => if b = true then some true else anyK t ns
def isiT (ns : List String) (d : D) : Option R := (tyD d).bind fun t => (anyK t ns).map fun b => .val (.bool b)
theorem tyx_of {K : PySem.W.Frag} {H : Hp} {Z : AP} : ∀ {d : D} {v : V} {t : String}, Rdb K H Z d v → tyD d = some t → TyX K H v (.type t)
  | .none, _, _, h, e => by cases h; cases e; exact .base .non
  | .bool _, _, _, h, e => by cases h; cases e; exact .base (.bl _)
  | .int _, _, _, h, e => by cases h; cases e; exact .base (.int _)
  | .str _, _, _, h, e => by cases h; cases e; exact .base (.str _)
  | .list ds, _, _, h, e => by
    cases e
    obtain ⟨a, vs, rfl, h1, r⟩ := h
    exact .base (.lst h1)
  | .tuple ds, _, _, h, e => by
    cases e
    obtain ⟨a, vs, rfl, h1, r⟩ := h
    rcases h1 with (h1 | ⟨o, h1⟩) | h1
    · exact .base (.tup h1)
    · exact .fTuple h1
    · obtain ⟨o, its, n, h2, h3, _⟩ := h1
      exact .kTuple h2 h3
theorem tyx_new {K : PySem.W.Frag} {H : Hp} {tp : Addr} {o : HO} {v : V} {t : Value} (hn : H tp = none) (h : TyX K H v t) : TyX K (upd H tp o) v t := by
  have k : ∀ {a : Addr} {u : HO}, H a = some u → upd H tp o a = some u := fun {a u} e => by
    rw [upd_ne (ne_of_none e hn)]
    exact e
  cases h with
  | base b =>
    cases b with
    | non => exact .base .non
    | bl y => exact .base (.bl _)
    | int i => exact .base (.int _)
    | str y => exact .base (.str _)
    | flt y => exact .base (.flt _)
    | lst e => exact .base (.lst (k e))
    | frz e => exact .base (.frz (k e))
    | tup e => exact .base (.tup (k e))
    | dK e => exact .base (.dK (k e))
    | dT e => exact .base (.dT (k e))
    | ins e cl ha hn htk hm => exact .base (.ins (k e) cl ha hn htk hm)
  | byt y => exact .byt y
  | set e => exact .set (k e)
  | kList e c => exact .kList e c
  | kTuple e c => exact .kTuple e c
  | kDict e c => exact .kDict e c
  | fTuple e => exact .fTuple (k e)
  | fDict e => exact .fDict (k e)
theorem kit_any {K : PySem.W.Frag} {t : String} : ∀ {ns : List String} {b : Bool}, anyK t ns = some b → PySem.W.kitAny K (.type t) (ns.map Value.type) = some b
  | [], b, h => by cases h; rfl
  | n :: ns, b, h => by
    simp only [anyK, Option.bind_eq_some_iff] at h
    obtain ⟨c, h1, h2⟩ := h
    refine kitAny_cons (kit_ty h1) (fun hc => ?_) fun hc => ?_
    · subst hc
      exact kit_any h2
    · subst hc
      cases h2
      rfl
theorem kit_one {K : PySem.W.Frag} {t n : String} {b : Bool} (h : anyK t [n] = some b) : PySem.W.kitOne K (.type t) (.type n) = some b := by
  simp only [anyK, Option.bind_eq_some_iff] at h
  obtain ⟨c, h1, h2⟩ := h
  rw [kit_ty h1]
  cases c with
  | true => cases h2; rfl
  | false => cases h2; rfl
section
variable {X : Cx} {C : Cn} {pos : Pos}
/-- names of built-in types, as arguments -/
def Tys (X : Cx) (es : List Expr) (ns : List String) : Prop := PA X es fun _ H Q => Q (ns.map V.ty) H
theorem ty_name {x : Str} {n : String} {p : Pos} (hg : Gl X x) (hm : X.mg x = none) (hv : bootBuiltins x = some (.type n)) (hn : x ≠ "__name__" := by decide) (hd : (x == ("__debug__" : Str)) = false := by decide) : PE X (.Name x p) (tC (.ty n)) :=
  pe_bltn hg hm hv (by exact (rfl : Value.type n = Value.type n)) hn hd
theorem tys_nil : Tys X [] [] := PA.weaken pa_nil fun σ H Q q => q
theorem tys_cons {e : Expr} {es : List Expr} {n : String} {ns : List String} (h : PE X e (tC (.ty n))) (k : Tys X es ns) (hs : starEach (e :: es) X.env = (false, eval e X.env) :: starEach es X.env := by rfl) : Tys X (e :: es) (n :: ns) :=
  PA.weaken (pa_cons h k hs) fun σ H Q q => q
def eIsi (ns : List String) (f : Ev) : Ev := eUn (isiT ns) f
theorem boot_isi : bootBuiltins "isinstance" = some (.builtin "isinstance") := by decide +kernel
theorem ev_isi {e : Expr} {T : Expr} {n : String} {f : Ev} {p : Pos} (hg : Gl X "isinstance") (hm : X.mg "isinstance" = none) (he : EvE X C e f) (hT : PE X T (tC (.ty n)))
    (h1 : starEach [e, T] X.env = (false, eval e X.env) :: starEach [T] X.env := by rfl) (h2 : starEach [T] X.env = (false, eval T X.env) :: starEach [] X.env := by rfl) (hpl : (backTo pos (starEach [T] X.env)).any (·.1) = false := by rfl) :
    EvE X C (.Call (.Name "isinstance" p) [e, T] [] pos) (eIsi [n] f) :=
  PE.weaken (pe_callB call_isi hg hm boot_isi (pa_cons he (pa_cons hT pa_nil h2) h1) (by decide) (by decide) h1 hpl) fun σ H Q ⟨U, env, r, env', st, e, q⟩ => by
    simp only [eIsi, eUn, Option.bind_eq_some_iff, Option.map_eq_some_iff] at e
    obtain ⟨⟨ra, e1⟩, hf, x, hx, r', hp, e⟩ := e
    obtain ⟨rfl, rfl⟩ := Prod.mk.inj e
    unfold isiT at hp
    rw [Option.bind_eq_some_iff] at hp
    obtain ⟨t, ht, hp⟩ := hp
    rw [Option.map_eq_some_iff] at hp
    obtain ⟨b, hb, rfl⟩ := hp
    refine ⟨U, env, ra, e1, st, hf, fun v H1 U1 s1 st1 r1 => ?_⟩
    exact ⟨v, .ty n, _, _, b, rfl, .ty n, tyx_of (deref_ok st1 r1 hx) ht, kit_one hb, pr_val (d := .bool b) st1 rfl (q.stp s1)⟩
theorem ev_isiT {e : Expr} {Ts : List Expr} {ns : List String} {f : Ev} {k : Nat} {p p2 : Pos} (hg : Gl X "isinstance") (hm : X.mg "isinstance" = none) (he : EvE X C e f) (hT : Tys X Ts ns) (hl : ns.length ≤ 1000000)
    (h1 : starEach [e, .Tuple Ts k p2] X.env = (false, eval e X.env) :: starEach [.Tuple Ts k p2] X.env := by rfl) (h2 : starEach [.Tuple Ts k p2] X.env = (false, eval (.Tuple Ts k p2) X.env) :: starEach [] X.env := by rfl) (hpl : (backTo pos (starEach [.Tuple Ts k p2] X.env)).any (·.1) = false := by rfl) :
    EvE X C (.Call (.Name "isinstance" p) [e, .Tuple Ts k p2] [] pos) (eIsi ns f) :=
  PE.weaken (pe_callB call_isiT hg hm boot_isi (pa_cons he (pa_cons (pe_tup hT) pa_nil h2) h1) (by decide) (by decide) h1 hpl) fun σ H Q ⟨U, env, r, env', st, e, q⟩ => by
    simp only [eIsi, eUn, Option.bind_eq_some_iff, Option.map_eq_some_iff] at e
    obtain ⟨⟨ra, e1⟩, hf, x, hx, r', hp, e⟩ := e
    obtain ⟨rfl, rfl⟩ := Prod.mk.inj e
    unfold isiT at hp
    rw [Option.bind_eq_some_iff] at hp
    obtain ⟨t, ht, hp⟩ := hp
    rw [Option.map_eq_some_iff] at hp
    obtain ⟨b, hb, rfl⟩ := hp
    refine ⟨U, env, ra, e1, st, hf, fun v H1 U1 s1 st1 r1 => ⟨Nat.le_trans (by rw [List.length_map]; exact hl) m_le, fun tp hn => ?_⟩⟩
    have s2 : Stp H1 U1 (upd H1 tp (.tup (ns.map V.ty))) U1 := stp_new hn fun b h => .inl h
    have st2 : Stt X.K C (upd H1 tp (.tup (ns.map V.ty))) U1 σ e1 := st1.new hn (fun b u => u) (fun b h => .inl h) fun u => by
      obtain ⟨ws, e⟩ := st1.dom _ u
      rw [hn] at e; cases e
    have ty := tyx_of (deref_ok st1 r1 hx) ht
    have ty2 : TyX X.K (upd H1 tp (.tup (ns.map V.ty))) v (.type t) := tyx_new hn ty
    have pc : ∀ ns : List String, Paired ClsV (ns.map V.ty) (ns.map Value.type) := fun ns => by
      induction ns with
      | nil => exact .nil
      | cons n ns ih => exact .cons (.ty n) ih
    exact ⟨v, tp, ns.map V.ty, _, ns.map Value.type, b, rfl, upd_same, pc ns, ty2, kit_any hb, pr_val (d := .bool b) st2 rfl (q.stp (s1.trans s2))⟩
end
end Sm
set_option Elab.async false
set_option linter.all false
set_option maxRecDepth 100000
set_option maxHeartbeats 1000000
/-! The layer: what a def of the top has. -/
namespace Sm
open PySem PySem.Spec PyProof.Rows L2
theorem boot_lenX : bootBuiltins "len" = some (.builtin "len") := by decide +kernel
theorem boot_absX : bootBuiltins "abs" = some (.builtin "abs") := by decide +kernel
theorem boot_sumX : bootBuiltins "sum" = some (.builtin "sum") := by decide +kernel
theorem boot_allX : bootBuiltins "all" = some (.builtin "all") := by decide +kernel
theorem boot_anyX : bootBuiltins "any" = some (.builtin "any") := by decide +kernel
theorem boot_minX : bootBuiltins "min" = some (.builtin "min") := by decide +kernel
theorem boot_intX : bootBuiltins "int" = some (.type "int") := by decide +kernel
theorem boot_listX : bootBuiltins "list" = some (.type "list") := by decide +kernel
theorem boot_tupleX : bootBuiltins "tuple" = some (.type "tuple") := by decide +kernel
theorem boot_boolX : bootBuiltins "bool" = some (.type "bool") := by decide +kernel
theorem boot_strX : bootBuiltins "str" = some (.type "str") := by decide +kernel
theorem boot_zipX : bootBuiltins "zip" = some (.type "zip") := by decide +kernel
/-- the name x stands for a def that keeps the promise sp -/
def Has (P : Program) (w : World) (K : PySem.W.Frag) (mg : Str → Option Value) (base : Heap) (k : Nat) (x : Str) (ps : List Str) (sp : Sp) : Prop :=
  ∃ (f : Addr) (fd : FuncData), FnOk P w K mg base CX0 k f fd ps sp ∧ mg x = some (.ref f) ∧ PySem.W.keepIn K (.ref f) = true ∧ Binds K fd ps []
section
variable {X : Cx} {C : Cn} {pos : Pos} {k n : Nat} {ps : List Str} {x : Str} {p : Pos} {e : Expr} {es : List Expr} {a : EvA} {T : List (Addr × Str)}
theorem ev_callH {g : List D → Option D} (h : Has X.prog X.w X.K X.mg X.base k x ps (spP X.K T n g)) (hT : C.T = T) (hn : ∀ ds r, g ds = some r → ds.length = n) (hr : Room k X.A) (hg : Gl X x)
    (ha : EvAs X C (e :: es) a) (hdb : (x == ("__debug__" : Str)) = false := by decide) (he : starEach (e :: es) X.env = (false, eval e X.env) :: starEach es X.env := by rfl) (hpl : (backTo pos (starEach es X.env)).any (·.1) = false := by rfl) :
    EvE X C (.Call (.Name x p) (e :: es) [] pos) (eCall g a) :=
  let ⟨_, _, F, hm, hk, hb⟩ := h
  ev_call hT F hn hr hg hm hk hb ha hdb he hpl
theorem ev_callMH {g : D → List D → Option (D × D)} (h : Has X.prog X.w X.K X.mg X.base k x ps (spM X.K T n g)) (hT : C.T = T) (hn : ∀ d ds r, g d ds = some r → ds.length + 1 = n) (hr : Room k X.A) (hg : Gl X x)
    (ha : EvAs X C (e :: es) a) (hdb : (x == ("__debug__" : Str)) = false := by decide) (he : starEach (e :: es) X.env = (false, eval e X.env) :: starEach es X.env := by rfl) (hpl : (backTo pos (starEach es X.env)).any (·.1) = false := by rfl) :
    EvE X C (.Call (.Name x p) (e :: es) [] pos) (eCallM g a) :=
  let ⟨_, _, F, hm, hk, hb⟩ := h
  ev_callM hT F hn hr hg hm hk hb ha hdb he hpl
theorem ev_callSH {g : List Int → Option D} {i : Nat} {y : Str} {py : Pos} (h : Has X.prog X.w X.K X.mg X.base k x ps (spS X.K T g)) (hT : C.T = T) (hr : Room k X.A) (hg : Gl X x)
    (ha : PE X (.Name y py) (tVar i)) (hdb : (x == ("__debug__" : Str)) = false := by decide) (he : starEach [.Name y py] X.env = (false, eval (.Name y py) X.env) :: starEach [] X.env := by rfl) (hpl : (backTo pos (starEach [] X.env)).any (·.1) = false := by rfl) :
    EvE X C (.Call (.Name x p) [.Name y py] [] pos) (eCallS g i) :=
  let ⟨_, _, F, hm, hk, hb⟩ := h
  ev_callS hT F hr hg hm hk hb ha hdb he hpl
end
end Sm
set_option Elab.async false
set_option linter.all false
set_option maxRecDepth 100000
set_option maxHeartbeats 2000000
/-! The layer: list(zip(a, b)) of lists and tuples. -/
namespace Sm
open PySem PySem.Spec PyProof.Rows L2
theorem zip_len0 : typeLookup (.type "zip") "__len__" = pure none := am_miss_of_fast (by decide +kernel)
theorem zip_hint0 : typeLookup (.type "zip") "__length_hint__" = pure none := am_miss_of_fast (by decide +kernel)
section
variable {prog : Program} {w : World} {A : Around} {E : Value → Shared → Prop} {s : Shared} {z TI TO T i1 i2 : Addr} {fp1 fp2 : List Addr} {n1 n2 i : Nat} {P1 P2 : Nat → Value → Prop} {St1 St2 : Nat → Heap → Prop} {f : Bool} {oT : Obj}
/-- next of a zip whose last tuple lives on -/
theorem zh_item {Q : Value → Shared → Prop} (S : ZipSep2 z TI TO i1 i2 fp1 fp2) (D1 : Draws prog w A i1 fp1 n1 P1 St1) (D2 : Draws prog w A i2 fp2 n2 P2 St2)
    (hz : IsZipHeld s.heap z TI TO T f) (hT : s.heap.get? T = some oT) (hTI : IsTupOf2 s.heap TI (.ref i1) (.ref i2)) (st1 : St1 i s.heap) (st2 : St2 i s.heap) (l1 : i < n1) (l2 : i < n2)
    (hQ : ∀ x1 x2 h' tk, P1 i x1 → P2 i x2 → IsZipHeld h' z TI TO T true → St1 (i + 1) h' → St2 (i + 1) h' → IsTupOf2 h' s.heap.objs.size x1 x2 → h'.objs.size = s.heap.objs.size + 1 →
      (∀ c o, c ≠ z → c ≠ i1 → c ≠ i2 → s.heap.get? c = some o → h'.get? c = some o) → Q (.ref s.heap.objs.size) { s with heap := h', toks := tk }) :
    wpAny (model prog w) A (Builtin.«zip.__next__» ⟨[.ref z], []⟩) (fun fin s' => ∃ v, fin = .done (.ret v) ∧ Q v s') E s := by
  obtain ⟨hp, g, d, t0, os⟩ := s
  show wpAny _ _ (field (.ref z) 2 >>= _) _ _ _
  refine wpAny_bind (wpAny_field hz rfl (x := .bool false) rfl ?_)
  show wpAny _ _ (field (.ref z) 3 >>= _) _ _ _
  refine wpAny_bind (wpAny_field hz rfl (x := .ref TI) rfl ?_)
  refine wpAny_bind (wpAny_seqItems hTI rfl ?_)
  show wpAny _ _ (Builtin.SmallTypes.ownedTupleIsFree (.ref z) >>= _) _ _ _
  refine wpAny_bind (wpAny_tupleHeld_zip hz hT fun ha za sa => ?_)
  replace sa : Heap.SameBut z hp ha := sa
  simp only [Bool.false_eq_true, if_false]
  refine wpAny_bind ?_
  rw [← Array.forIn_toList]
  simp only [List.forIn_cons, List.forIn_nil]
  refine wpAny_bind (wpAny_bind (wpAny_holding ?_))
  show wpAny _ _ (Builtin.SmallTypes.nextOf (.ref i1) >>= _) _ _ ⟨ha, g, d, t0, os⟩
  refine wpAny_bind (D1.item i _ _ _ l1 (D1.over st1 sa S.zf1) fun x1 hb tb p1 sb kb => wpAny_pure ?_)
  replace kb : Heap.SameBut i1 ha hb := kb
  refine wpAny_pure ?_
  refine wpAny_bind (wpAny_bind (wpAny_holding ?_))
  show wpAny _ _ (Builtin.SmallTypes.nextOf (.ref i2) >>= _) _ _ ⟨hb, g, d, tb, os⟩
  refine wpAny_bind (D2.item i _ _ _ l2 (D2.over (D2.over st2 sa S.zf2) kb S.sep1_2) fun x2 hc tc p2 sc kc => wpAny_pure ?_)
  replace kc : Heap.SameBut i2 hb hc := kc
  refine wpAny_pure (wpAny_pure ?_)
  show wpAny _ _ (newTuple [x1, x2] >>= _) _ _ _
  refine wpAny_bind (wpAny_newTuple ?_)
  have hsz : hc.objs.size = hp.objs.size := by rw [kc.1, kb.1, sa.1]
  have zc : IsZipHeld hc z TI TO T true := kc.extBut _ _ S.zi2 (kb.extBut _ _ S.zi1 za)
  have kept : ∀ c o, c ≠ z → c ≠ i1 → c ≠ i2 → hp.get? c = some o → hc.get? c = some o := fun c o q1 q2 q3 e => kc.extBut _ _ q3 (kb.extBut _ _ q2 (sa.extBut _ _ q1 e))
  have push : ∀ c o, hc.get? c = some o → (hc.push { cls := .type "tuple", data := .seq #[x1, x2] }).get? c = some o := fun c o e => Heap.get?_push_of_some _ e
  refine wpAny_pure ⟨_, rfl, ?_⟩
  show Q (.ref hc.objs.size) _
  have tp : IsTupOf2 (hc.push { cls := .type "tuple", data := .seq #[x1, x2] }) hc.objs.size x1 x2 := Heap.get?_push_size _ rfl
  have sz4 : (hc.push { cls := .type "tuple", data := .seq #[x1, x2] }).objs.size = hc.objs.size + 1 := Heap.size_push ..
  rw [hsz] at tp sz4 ⊢
  exact hQ x1 x2 _ tc p1 p2 (push _ _ zc) (D1.frame _ _ _ (D1.over sb kc S.sep2_1) fun b _ o e => push b o e) (D2.frame _ _ _ sc fun b _ o e => push b o e) tp sz4 fun c o q1 q2 q3 e => push c o (kept c o q1 q2 q3 e)
theorem zh_end {Q : Fin → Shared → Prop} (S : ZipSep2 z TI TO i1 i2 fp1 fp2) (D1 : Draws prog w A i1 fp1 n1 P1 St1) (D2 : Draws prog w A i2 fp2 n2 P2 St2)
    (hz : IsZipHeld s.heap z TI TO T f) (hT : s.heap.get? T = some oT) (hTI : IsTupOf2 s.heap TI (.ref i1) (.ref i2)) (st1 : St1 i s.heap) (st2 : St2 i s.heap) (l1 : i ≤ n1) (l2 : i ≤ n2) (hend : i = n1 ∨ i = n2)
    (hE : ∀ h' tk e, (∀ c o, c ≠ z → c ≠ i1 → c ≠ i2 → s.heap.get? c = some o → h'.get? c = some o) → (∃ o, h'.get? e = some o ∧ o.cls = .type "StopIteration") → E (.ref e) { s with heap := h', toks := tk }) :
    wpAny (model prog w) A (Builtin.«zip.__next__» ⟨[.ref z], []⟩) Q E s := by
  obtain ⟨hp, g, d, t0, os⟩ := s
  show wpAny _ _ (field (.ref z) 2 >>= _) _ _ _
  refine wpAny_bind (wpAny_field hz rfl (x := .bool false) rfl ?_)
  show wpAny _ _ (field (.ref z) 3 >>= _) _ _ _
  refine wpAny_bind (wpAny_field hz rfl (x := .ref TI) rfl ?_)
  refine wpAny_bind (wpAny_seqItems hTI rfl ?_)
  show wpAny _ _ (Builtin.SmallTypes.ownedTupleIsFree (.ref z) >>= _) _ _ _
  refine wpAny_bind (wpAny_tupleHeld_zip hz hT fun ha za sa => ?_)
  replace sa : Heap.SameBut z hp ha := sa
  simp only [Bool.false_eq_true, if_false]
  refine wpAny_bind ?_
  rw [← Array.forIn_toList]
  simp only [List.forIn_cons, List.forIn_nil]
  refine wpAny_bind (wpAny_bind (wpAny_holding ?_))
  show wpAny _ _ (Builtin.SmallTypes.nextOf (.ref i1) >>= _) _ _ ⟨ha, g, d, t0, os⟩
  by_cases h1 : i < n1
  · refine wpAny_bind (D1.item i _ _ _ h1 (D1.over st1 sa S.zf1) fun x1 hb tb p1 sb kb => wpAny_pure ?_)
    replace kb : Heap.SameBut i1 ha hb := kb
    refine wpAny_pure ?_
    have e2 : i = n2 := by omega
    refine wpAny_bind (wpAny_bind (wpAny_holding ?_))
    show wpAny _ _ (Builtin.SmallTypes.nextOf (.ref i2) >>= _) _ _ ⟨hb, g, d, tb, os⟩
    refine wpAny_bind (D2.done ⟨hb, g, d, tb, os⟩ _ _ (by rw [← e2]; exact D2.over (D2.over st2 sa S.zf2) kb S.sep1_2) fun hc e kc he => ?_)
    replace kc : Heap.ExtBut i2 hb hc := kc
    exact hE hc tb e (fun c o q1 q2 q3 x => kc _ _ q3 (kb.extBut _ _ q2 (sa.extBut _ _ q1 x))) he
  · have e1 : i = n1 := by omega
    refine wpAny_bind (D1.done ⟨ha, g, d, t0, os⟩ _ _ (by rw [← e1]; exact D1.over st1 sa S.zf1) fun hb e kb he => ?_)
    replace kb : Heap.ExtBut i1 ha hb := kb
    exact hE hb t0 e (fun c o q1 q2 _ x => kb _ _ q2 (sa.extBut _ _ q1 x)) he

/-- the zip between two turns of a list's making; N: the addresses of its tuples -/
def ZAt (N : Nat) (z TI TO i1 i2 : Addr) (P1 P2 : Nat → Value → Prop) (St1 St2 : Nat → Heap → Prop) (acc : Array Value) (i : Nat) (h : Heap) : Prop :=
  IsTupOf2 h TI (.ref i1) (.ref i2) ∧ St1 i h ∧ St2 i h ∧ h.objs.size = N + i ∧ acc.size = i ∧ (∀ j, j < i → acc[j]? = some (.ref (N + j)) ∧ ∃ x y, P1 j x ∧ P2 j y ∧ IsTupOf2 h (N + j) x y) ∧
    ((i = 0 ∧ IsZip h z TI TO .none ∧ ∃ a1 a2, IsTupOf2 h TO a1 a2) ∨ (0 < i ∧ ∃ f, IsZipHeld h z TI TO N f))
/-- the tuples that the list holds -/
def ZAll (N : Nat) (P1 P2 : Nat → Value → Prop) (acc : Array Value) (n : Nat) (h : Heap) : Prop := acc.size = n ∧ ∀ j, j < n → acc[j]? = some (.ref (N + j)) ∧ ∃ x y, P1 j x ∧ P2 j y ∧ IsTupOf2 h (N + j) x y
theorem ZAt.upd {N : Nat} {acc : Array Value} {i : Nat} {h h' : Heap} {L : Addr} (D1 : Draws prog w A i1 fp1 n1 P1 St1) (D2 : Draws prog w A i2 fp2 n2 P2 St2) (Z : ZAt N z TI TO i1 i2 P1 P2 St1 St2 acc i h) (hs : Heap.SameBut L h h') (hl : L < N) (h1 : L ∉ fp1) (h2 : L ∉ fp2) (hTI : TI ≠ L) (hTO : TO ≠ L) (hz : z ≠ L) :
    ZAt N z TI TO i1 i2 P1 P2 St1 St2 acc i h' := by
  obtain ⟨a, b, c, d, e, g, k⟩ := Z
  refine ⟨hs.extBut _ _ hTI a, D1.over b hs h1, D2.over c hs h2, hs.1.trans d, e, fun j hj => ?_, ?_⟩
  · obtain ⟨g1, x, y, p1, p2, g2⟩ := g j hj
    exact ⟨g1, x, y, p1, p2, hs.extBut _ _ (Nat.ne_of_gt (Nat.lt_of_lt_of_le hl (Nat.le_add_right _ _))) g2⟩
  · rcases k with ⟨k0, k1, a1, a2, k2⟩ | ⟨k0, f, k1⟩
    · exact .inl ⟨k0, hs.extBut _ _ hz k1, a1, a2, hs.extBut _ _ hTO k2⟩
    · exact .inr ⟨k0, f, hs.extBut _ _ hz k1⟩
theorem lz_next {Q : Option Value → Shared → Prop} {N : Nat} {acc : Array Value} (S : ZipSep2 z TI TO i1 i2 fp1 fp2) (D1 : Draws prog w A.in1 i1 fp1 n1 P1 St1) (D2 : Draws prog w A.in1 i2 fp2 n2 P2 St2) (hN : z < N ∧ TO < N ∧ TI < N ∧ i1 < N ∧ i2 < N)
    (Z : ZAt N z TI TO i1 i2 P1 P2 St1 St2 acc i s.heap) (l1 : i < n1) (l2 : i < n2)
    (hQ : ∀ h' tk, ZAt N z TI TO i1 i2 P1 P2 St1 St2 (acc.push (.ref (N + i))) (i + 1) h' → (∀ c o, c ≠ z → c ≠ TO → c ≠ i1 → c ≠ i2 → s.heap.get? c = some o → h'.get? c = some o) → Q (some (.ref (N + i))) { s with heap := h', toks := tk }) :
    wpAny (model prog w) A (pyNext (.ref z)) Q E s := by
  obtain ⟨a, b, c, d, e, g, k⟩ := Z
  have up : ∀ {q j : Nat}, q < N → N + j ≠ q := fun h => Nat.ne_of_gt (Nat.lt_of_lt_of_le h (Nat.le_add_right _ _))
  have push : ∀ h' : Heap, (∀ c o, c ≠ z → c ≠ TO → c ≠ i1 → c ≠ i2 → s.heap.get? c = some o → h'.get? c = some o) → ∀ x1 x2, P1 i x1 → P2 i x2 → IsTupOf2 h' (N + i) x1 x2 → ∀ j, j < i + 1 → (acc.push (.ref (N + i)))[j]? = some (.ref (N + j)) ∧ ∃ x y, P1 j x ∧ P2 j y ∧ IsTupOf2 h' (N + j) x y := fun h' kp x1 x2 p1 p2 tp j hj => by
    rw [Array.getElem?_push, e]
    by_cases hji : j = i
    · subst hji
      rw [if_pos rfl]
      exact ⟨rfl, x1, x2, p1, p2, tp⟩
    · rw [if_neg hji]
      obtain ⟨g1, x, y, q1, q2, g2⟩ := g j (by omega)
      exact ⟨g1, x, y, q1, q2, kp _ _ (up hN.1) (up hN.2.1) (up hN.2.2.2.1) (up hN.2.2.2.2) g2⟩
  rcases k with ⟨k0, hz, a1, a2, hTO⟩ | ⟨k0, f, hz⟩
  · have hTy : s.TypeIs (.ref z) "zip" := ⟨_, hz, rfl⟩
    unfold pyNext
    refine wpAny_bind (wpAny_attempt (wpAny_callSpecial?_slot (name := Str.ofString "__next__") hTy F.slot_zip_next
      (wpAny_call_entry F.slot_zip_next hTy F.entry_zip_next (zipD2_next_item S D1 D2 hz a hTO b c l1 l2 fun x1 x2 h' tk p1 p2 z1 t1 s1 s2 tp sz kp => ?_) (F.args_zip_next_1 _))))
    rw [d] at tp sz ⊢
    refine wpAny_pure (hQ h' tk ⟨kp _ _ S.TIz S.TITO S.TIi1 S.TIi2 a, s1, s2, sz, by rw [Array.size_push, e], push h' kp x1 x2 p1 p2 tp, .inr ⟨Nat.succ_pos i, false, ?_⟩⟩ kp)
    rw [d] at z1
    subst k0
    exact z1
  · have hTy : s.TypeIs (.ref z) "zip" := ⟨_, hz, rfl⟩
    obtain ⟨g1, x, y, q1, q2, g2⟩ := g 0 k0
    unfold pyNext
    refine wpAny_bind (wpAny_attempt (wpAny_callSpecial?_slot (name := Str.ofString "__next__") hTy F.slot_zip_next
      (wpAny_call_entry F.slot_zip_next hTy F.entry_zip_next (zh_item S D1 D2 hz g2 a b c l1 l2 fun x1 x2 h' tk p1 p2 z1 s1 s2 tp sz kp => ?_) (F.args_zip_next_1 _))))
    rw [d] at tp sz ⊢
    refine wpAny_pure (hQ h' tk ⟨kp _ _ S.TIz S.TIi1 S.TIi2 a, s1, s2, sz, by rw [Array.size_push, e], push h' (fun c o c1 _ c3 c4 x => kp c o c1 c3 c4 x) x1 x2 p1 p2 tp, .inr ⟨Nat.succ_pos i, true, z1⟩⟩ fun c o c1 _ c3 c4 x => kp c o c1 c3 c4 x)
theorem lz_done {Q : Option Value → Shared → Prop} {N : Nat} {acc : Array Value} (S : ZipSep2 z TI TO i1 i2 fp1 fp2) (D1 : Draws prog w A.in1 i1 fp1 n1 P1 St1) (D2 : Draws prog w A.in1 i2 fp2 n2 P2 St2) (hN : z < N ∧ TO < N ∧ TI < N ∧ i1 < N ∧ i2 < N)
    (Z : ZAt N z TI TO i1 i2 P1 P2 St1 St2 acc i s.heap) (l1 : i ≤ n1) (l2 : i ≤ n2) (hend : i = n1 ∨ i = n2)
    (hQ : ∀ h' tk, (∀ c o, c ≠ z → c ≠ TO → c ≠ i1 → c ≠ i2 → s.heap.get? c = some o → h'.get? c = some o) → Q none { s with heap := h', toks := tk }) :
    wpAny (model prog w) A (pyNext (.ref z)) Q E s := by
  obtain ⟨a, b, c, d, e, g, k⟩ := Z
  rcases k with ⟨k0, hz, a1, a2, hTO⟩ | ⟨k0, f, hz⟩
  · have hTy : s.TypeIs (.ref z) "zip" := ⟨_, hz, rfl⟩
    unfold pyNext
    refine wpAny_bind (wpAny_attempt (wpAny_callSpecial?_slot (name := Str.ofString "__next__") hTy F.slot_zip_next
      (wpAny_call_entry F.slot_zip_next hTy F.entry_zip_next (zipD2_next_end S D1 D2 hz a hTO b c l1 l2 hend fun h' tk e kp he => ?_) (F.args_zip_next_1 _))))
    obtain ⟨oe, he1, he2⟩ := he
    exact wpAny_bind (wpAny_isInstance (T := "StopIteration") (b := true) ⟨oe, he1, he2⟩ isSubtype_stop (wpAny_pure (hQ h' tk kp)))
  · have hTy : s.TypeIs (.ref z) "zip" := ⟨_, hz, rfl⟩
    obtain ⟨g1, x, y, q1, q2, g2⟩ := g 0 k0
    unfold pyNext
    refine wpAny_bind (wpAny_attempt (wpAny_callSpecial?_slot (name := Str.ofString "__next__") hTy F.slot_zip_next
      (wpAny_call_entry F.slot_zip_next hTy F.entry_zip_next (zh_end S D1 D2 hz g2 a b c l1 l2 hend fun h' tk e kp he => ?_) (F.args_zip_next_1 _))))
    obtain ⟨oe, he1, he2⟩ := he
    exact wpAny_bind (wpAny_isInstance (T := "StopIteration") (b := true) ⟨oe, he1, he2⟩ isSubtype_stop (wpAny_pure (hQ h' tk fun c o c1 _ c3 c4 x => kp c o c1 c3 c4 x)))
/-- the loop that fills the list L -/
theorem lz_loop {R : Result → Shared → Prop} {N L : Nat} {h0 : Heap} {res : Value} (S : ZipSep2 z TI TO i1 i2 fp1 fp2) (D1 : Draws prog w A.in1.in1 i1 fp1 n1 P1 St1) (D2 : Draws prog w A.in1.in1 i2 fp2 n2 P2 St2) (hN : z < N ∧ TO < N ∧ TI < N ∧ i1 < N ∧ i2 < N)
    (hL : L < N) (hLf1 : L ∉ fp1) (hLf2 : L ∉ fp2) (hLz : z ≠ L) (hLTI : TI ≠ L) (hLTO : TO ≠ L) (hLi1 : i1 ≠ L) (hLi2 : i2 ≠ L) (hn : min n1 n2 ≤ 1000000)
    (hR : ∀ acc c h' tk, ZAll N P1 P2 acc (min n1 n2) h' → h'.get? L = some { cls := .type "list", dict := none, data := .seq acc c, slots := #[] } → (∀ b o, b ≠ L → b ≠ z → b ≠ TO → b ≠ i1 → b ≠ i2 → h0.get? b = some o → h'.get? b = some o) → R (.ok (.ret res)) { s with heap := h', toks := tk }) :
    ∀ (k i : Nat) (h : Heap) (tk : Nat) (acc : Array Value) (c : Nat), min n1 n2 - i = k → i ≤ n1 → i ≤ n2 → ZAt N z TI TO i1 i2 P1 P2 St1 St2 acc i h → h.get? L = some { cls := .type "list", dict := none, data := .seq acc c, slots := #[] } →
      (∀ b o, b ≠ L → b ≠ z → b ≠ TO → b ≠ i1 → b ≠ i2 → h0.get? b = some o → h.get? b = some o) → codeAny (model prog w) A (.builtin "list.extend.loop" ⟨[.ref L, .ref z, res], []⟩) R { s with heap := h, toks := tk } := by
  intro k
  induction k with
  | zero =>
    intro i h tk acc c hk hi1 hi2 Z hS kp
    have hz : i = min n1 n2 := by omega
    refine codeAny_builtin F.entry_extend_loop ?_
    rw [Around.under_plainId F.plain_extend_loop _]
    show wpAny _ A.in1 (pyNext (.ref z) >>= _) _ _ _
    refine wpAny_bind (lz_done (s := { s with heap := h, toks := tk }) S D1 D2 hN Z hi1 hi2 (by omega) fun h' tk' kk => wpAny_pure ?_)
    have up : ∀ {q j : Nat}, q < N → N + j ≠ q := fun h => Nat.ne_of_gt (Nat.lt_of_lt_of_le h (Nat.le_add_right _ _))
    obtain ⟨_, _, _, _, e, g, _⟩ := Z
    rw [hz] at e g
    refine hR acc c h' tk' ⟨e, fun j hj => ?_⟩ (kk _ _ hLz.symm hLTO.symm hLi1.symm hLi2.symm hS) fun b o b1 b2 b3 b4 b5 x => kk _ _ b2 b3 b4 b5 (kp b o b1 b2 b3 b4 b5 x)
    obtain ⟨g1, x, y, q1, q2, g2⟩ := g j hj
    exact ⟨g1, x, y, q1, q2, kk _ _ (up hN.1) (up hN.2.1) (up hN.2.2.2.1) (up hN.2.2.2.2) g2⟩
  | succ k ih =>
    intro i h tk acc c hk hi1 hi2 Z hS kp
    refine codeAny_builtin F.entry_extend_loop ?_
    rw [Around.under_plainId F.plain_extend_loop _]
    show wpAny _ A.in1 (pyNext (.ref z) >>= _) _ _ _
    refine wpAny_bind (lz_next (s := { s with heap := h, toks := tk }) S D1 D2 hN Z (by omega) (by omega) fun h' tk' Z' kk => ?_)
    have hS' : h'.get? L = some { cls := .type "list", dict := none, data := .seq acc c, slots := #[] } := kk _ _ hLz.symm hLTO.symm hLi1.symm hLi2.symm hS
    have hsz : acc.size = i := Z.2.2.2.2.1
    show wpAny _ A.in1 (updateSeq L (·.push (.ref (N + i))) >>= _) _ _ _
    refine wpAny_bind ?_
    have sb := Heap.SameBut.update h' L (Obj.mapSeq fun xs : Array Value => xs.push (.ref (N + i)))
    refine wpAny_updateSeq hS' rfl (wpAny_pure ⟨plainId_quiet F.plain_extend_loop _, ih (i + 1) _ _ _ _ (by omega) (by omega) (by omega) (Z'.upd D1 D2 sb hL hLf1 hLf2 hLTI hLTO hLz) (Heap.get?_update_self _ hS' rfl) fun b o b1 b2 b3 b4 b5 x => ?_⟩)
      (by rw [hsz]; have := m_le; omega) (by show (acc.push _).size ≤ sizeLine + 1; rw [Array.size_push, hsz]; have := m_le; omega)
    exact sb.extBut _ _ b1 (kk _ _ b2 b3 b4 b5 (kp b o b1 b2 b3 b4 b5 x))
/-- list(z) -/
theorem lz_call {Q : Value → Shared → Prop} (S : ZipSep2 z TI TO i1 i2 fp1 fp2) (D1 : Draws prog w A.in1.in1.in1 i1 fp1 n1 P1 St1) (D2 : Draws prog w A.in1.in1.in1 i2 fp2 n2 P2 St2) (hz : IsZip s.heap z TI TO .none) (hTI : IsTupOf2 s.heap TI (.ref i1) (.ref i2)) {a1 a2 : Value} (hTO : IsTupOf2 s.heap TO a1 a2)
    (st1 : St1 0 s.heap) (st2 : St2 0 s.heap) (hl : ∀ b ∈ fp1 ++ fp2, b < s.heap.objs.size) (hn : min n1 n2 ≤ 1000000)
    (hQ : ∀ acc c h' tk, ZAll (s.heap.objs.size + 1) P1 P2 acc (min n1 n2) h' → h'.get? s.heap.objs.size = some { cls := .type "list", dict := none, data := .seq acc c, slots := #[] } → (∀ b o, b ≠ z → b ≠ TO → b ≠ i1 → b ≠ i2 → s.heap.get? b = some o → h'.get? b = some o) → Q (.ref s.heap.objs.size) { s with heap := h', toks := tk }) :
    wpAny (model prog w) A (call (.type "list") [.ref z]) Q E s := by
  have lt : ∀ {b : Addr} {o : Obj}, s.heap.get? b = some o → b < s.heap.objs.size := fun e => Heap.lt_size e
  have ne : ∀ {b : Addr}, b < s.heap.objs.size → b ≠ s.heap.objs.size := fun h => Nat.ne_of_lt h
  have L1 : i1 < s.heap.objs.size := hl _ (List.mem_append_left _ S.mem1)
  have L2 : i2 < s.heap.objs.size := hl _ (List.mem_append_right _ S.mem2)
  have F1 : s.heap.objs.size ∉ fp1 := fun m => Nat.lt_irrefl _ (hl _ (List.mem_append_left _ m))
  have F2 : s.heap.objs.size ∉ fp2 := fun m => Nat.lt_irrefl _ (hl _ (List.mem_append_right _ m))
  refine callType_codes (Q₁ := fun obj s₁ => obj = .ref s.heap.objs.size ∧ s₁ = { s with heap := s.heap.push { cls := .type "list", data := .seq #[] } }) F.called_list (F.typeCall_list_1 _) F.entry_list_init
    (code_list_new _ ⟨rfl, rfl⟩) fun obj s₁ h₁ => ?_
  obtain ⟨rfl, rfl⟩ := h₁
  have hS : (s.heap.push { cls := .type "list", data := .seq #[] }).get? s.heap.objs.size = some { cls := .type "list", data := .seq #[] } := Heap.get?_push_size _ rfl
  refine ⟨⟨_, hS, rfl⟩, F.args_list_init_2 _ _, ?_⟩
  have Z0 : ZAt (s.heap.objs.size + 1) z TI TO i1 i2 P1 P2 St1 St2 #[] 0 (s.heap.push { cls := .type "list", data := .seq #[] }) :=
    ⟨Heap.get?_push_of_some _ hTI, D1.frame _ _ _ st1 fun b _ o e => Heap.get?_push_of_some _ e, D2.frame _ _ _ st2 fun b _ o e => Heap.get?_push_of_some _ e, Heap.size_push .., rfl, fun j hj => absurd hj (Nat.not_lt_zero j), .inl ⟨rfl, Heap.get?_push_of_some _ hz, a1, a2, Heap.get?_push_of_some _ hTO⟩⟩
  show wpAny _ A.in1.in1 (do let old ← Builtin.List.listItems (.ref _); Builtin.List.listUpdate (.ref _) (fun _ => #[]); letGo old.toList.reverse; Builtin.List.listExtendWith (.ref _) (.ref z) .none) _ _ _
  refine wpAny_bind ?_
  unfold Builtin.List.listItems
  refine wpAny_bind (wpAny_seqItems hS rfl (wpAny_pure ?_))
  show wpAny _ A.in1.in1 (updateSeq _ (fun _ => #[]) >>= fun _ => letGo (#[] : Array Value).toList.reverse >>= fun _ => Builtin.List.listExtendWith (.ref _) (.ref z) .none) _ _ _
  refine wpAny_bind (wpAny_updateSeq hS rfl ?_)
  have b1 := Heap.SameBut.update (s.heap.push { cls := .type "list", data := .seq #[] }) s.heap.objs.size (Obj.mapSeq fun _ => (#[] : Array Value))
  have hS1 := Heap.get?_update_self (Obj.mapSeq (fun _ => (#[] : Array Value))) hS rfl
  have Z1 := Z0.upd D1 D2 b1 (Nat.lt_succ_self _) F1 F2 (ne (lt hTI)) (ne (lt hTO)) (ne (lt hz))
  refine wpAny_bind (wpAny_letGo ?_)
  -- extend
  have zz : ∃ o, ((s.heap.push { cls := .type "list", data := .seq #[] }).update s.heap.objs.size (Obj.mapSeq fun _ => (#[] : Array Value))).get? z = some o ∧ o.cls = .type "zip" := by
    rcases Z1.2.2.2.2.2.2 with ⟨_, q, _⟩ | ⟨_, _, q⟩ <;> exact ⟨_, q, rfl⟩
  unfold Builtin.List.listExtendWith
  refine wpAny_bind (wpAny_typeOf (T := "zip") (let ⟨o, e1, e2⟩ := zz; ⟨o, e1, e2⟩) ?_)
  have h1 : Builtin.List.listSameRef (.ref s.heap.objs.size) (.ref z) = false := by simp [Builtin.List.listSameRef, (ne (lt hz)).symm]
  have h2 : (Value.type "zip" == Value.type "list") = false := by decide
  have h3 : (Value.type "zip" == Value.type "tuple") = false := by decide
  simp only [h1, h2, h3, Bool.or_false, Bool.false_eq_true, if_false]
  have iz : IsZip ((s.heap.push { cls := .type "list", data := .seq #[] }).update s.heap.objs.size (Obj.mapSeq fun _ => (#[] : Array Value))) z TI TO .none := b1.extBut _ _ (ne (lt hz)) (Heap.get?_push_of_some _ hz)
  refine wpAny_bind (wpAny_pyIter_zip iz ?_)
  refine wpAny_bind (wpAny_holding ?_)
  unfold Builtin.List.listLengthHint
  refine wpAny_bind (wpAny_specialOf (T := "zip") ⟨_, iz, rfl⟩ zip_len0 ?_)
  show wpAny _ _ (specialOf (Value.ref z) (Str.ofString "__length_hint__") >>= _) _ _ _
  refine wpAny_bind (wpAny_specialOf (T := "zip") ⟨_, iz, rfl⟩ zip_hint0 ?_)
  refine wpAny_pure ?_
  show wpAny _ _ (rule "list.extend.makes-room" >>= fun _ => Builtin.List.listTouch (.ref _) >>= fun _ => again (.builtin "list.extend.loop" ⟨[.ref _, .ref z, _], []⟩)) _ _ _
  refine wpAny_bind (wpAny_rule ?_)
  refine wpAny_bind ?_
  show wpAny _ _ (updateSeq _ (·.push .none) >>= fun _ => updateSeq _ (·.pop)) _ _ _
  refine wpAny_bind (wpAny_updateSeq hS1 rfl ?_)
  have b2 := Heap.SameBut.update ((s.heap.push { cls := .type "list", data := .seq #[] }).update s.heap.objs.size (Obj.mapSeq fun _ => (#[] : Array Value))) s.heap.objs.size (Obj.mapSeq fun xs : Array Value => xs.push Value.none)
  have hS2 := Heap.get?_update_self (Obj.mapSeq (fun xs : Array Value => xs.push Value.none)) hS1 rfl
  have Z2 := Z1.upd D1 D2 b2 (Nat.lt_succ_self _) F1 F2 (ne (lt hTI)) (ne (lt hTO)) (ne (lt hz))
  refine wpAny_updateSeq (hz := by seq_fits) hS2 rfl ?_
  have b3 := Heap.SameBut.update (((s.heap.push { cls := .type "list", data := .seq #[] }).update s.heap.objs.size (Obj.mapSeq fun _ => (#[] : Array Value))).update s.heap.objs.size (Obj.mapSeq fun xs : Array Value => xs.push Value.none)) s.heap.objs.size (Obj.mapSeq fun xs : Array Value => xs.pop)
  have hS3 := Heap.get?_update_self (Obj.mapSeq (fun xs : Array Value => xs.pop)) hS2 rfl
  have Z3 := Z2.upd D1 D2 b3 (Nat.lt_succ_self _) F1 F2 (ne (lt hTI)) (ne (lt hTO)) (ne (lt hz))
  refine wpAny_pure ⟨plainId_quiet F.plain_extend_loop _, ?_⟩
  refine lz_loop (s := s) (h0 := s.heap) (L := s.heap.objs.size) S D1 D2 ⟨Nat.lt_succ_of_lt (lt hz), Nat.lt_succ_of_lt (lt hTO), Nat.lt_succ_of_lt (lt hTI), Nat.lt_succ_of_lt L1, Nat.lt_succ_of_lt L2⟩ (Nat.lt_succ_self _) F1 F2 (ne (lt hz)) (ne (lt hTI)) (ne (lt hTO)) (ne L1) (ne L2) hn
    (fun acc c h' tk g e kp => ⟨rfl, hQ acc c h' tk g e fun b o b2 b3 b4 b5 x => kp b o (ne (lt x)) b2 b3 b4 b5 x⟩) (min n1 n2) 0 _ s.toks #[] _ rfl (Nat.zero_le _) (Nat.zero_le _) Z3 hS3 fun b o c1 _ _ _ _ x => b3.extBut _ _ c1 (b2.extBut _ _ c1 (b1.extBut _ _ c1 (Heap.get?_push_of_some _ x)))
end
end Sm
set_option Elab.async false
set_option linter.all false
set_option maxRecDepth 100000
set_option maxHeartbeats 2000000
/-! The layer: list(zip(a, b)), told of data. -/
namespace Sm
open PySem PySem.Spec PyProof.Rows L2
theorem Src.is_keep {us : Array Value} {h h' : Heap} (k : ∀ b o, h.get? b = some o → h'.get? b = some o) : ∀ {c : Src}, c.Is us h → c.Is us h'
  | .l a, x => x.at (k a)
  | .t a, x => x.at (k a)
/-- new tuples from the address N on -/
def tupsAt (H : Hp) (N : Nat) (ps : List (V × V)) : Hp := fun b => if N ≤ b then (match ps[b - N]? with
  | some p => some (.tup [p.1, p.2])
  | none => H b) else H b
def refs (N n : Nat) : List V := (List.range n).map fun j => .ref (N + j)
section
variable {H : Hp} {N : Nat} {ps : List (V × V)}
theorem tupsAt_nil : tupsAt H N [] = H := by
  funext b
  unfold tupsAt
  split
  · simp
  · rfl
theorem tupsAt_snoc {p : V × V} : tupsAt H N (ps ++ [p]) = upd (tupsAt H N ps) (N + ps.length) (.tup [p.1, p.2]) := by
  funext b
  by_cases hb : b = N + ps.length
  · rw [hb, upd_same]
    unfold tupsAt
    rw [if_pos (Nat.le_add_right _ _), Nat.add_sub_cancel_left, List.getElem?_append_right (Nat.le_refl _), Nat.sub_self]
    rfl
  · rw [upd_ne hb]
    unfold tupsAt
    by_cases h : N ≤ b
    · rw [if_pos h, if_pos h]
      by_cases h2 : b - N < ps.length
      · rw [List.getElem?_append_left h2]
      · have h3 : ps.length < b - N := by
          rcases Nat.lt_or_ge ps.length (b - N) with z | z
          · exact z
          · exfalso
            apply hb
            have e : b - N = ps.length := Nat.le_antisymm z (Nat.not_lt.mp h2)
            rw [← e]
            exact (Nat.add_sub_cancel' h).symm
        rw [List.getElem?_eq_none (by rw [List.length_append, List.length_singleton]; omega), List.getElem?_eq_none (by omega)]
    · rw [if_neg h, if_neg h]
theorem tupsAt_get {j : Nat} {p : V × V} (h : ps[j]? = some p) : tupsAt H N ps (N + j) = some (.tup [p.1, p.2]) := by
  unfold tupsAt
  rw [if_pos (Nat.le_add_right _ _), Nat.add_sub_cancel_left, h]
theorem tupsAt_old (hn : ∀ b : Nat, N ≤ b → H b = none) {b : Addr} {o : HO} (h : H b = some o) : tupsAt H N ps b = some o := by
  unfold tupsAt
  by_cases hb : N ≤ b
  · rw [hn b hb] at h
    cases h
  · rw [if_neg hb]
    exact h
theorem tupsAt_out {b : Addr} (h : b < N ∨ N + ps.length ≤ b) : tupsAt H N ps b = H b := by
  unfold tupsAt
  by_cases hb : N ≤ b
  · rw [if_pos hb, List.getElem?_eq_none (by
      rcases h with h | h
      · exact absurd (Nat.lt_of_lt_of_le h hb) (Nat.lt_irrefl _)
      · exact Nat.le_sub_of_add_le (by rw [Nat.add_comm]; exact h))]
  · rw [if_neg hb]
end
section
variable {X : Cx} {pins : List (Addr × Obj)} {σ : L2.St} {H : Hp} {s : Shared}
theorem inv_tups {N tk : Nat} {h' : Heap} (I : Inv X pins σ H s) (hN : s.heap.objs.size ≤ N) (k : ∀ b u, s.heap.get? b = some u → h'.get? b = some u) : ∀ (n : Nat) (ps : List (V × V)), ps.length = n →
    (∀ j p, ps[j]? = some p → ∃ x y, RelV p.1 x ∧ RelV p.2 y ∧ IsTupOf2 h' (N + j) x y) → Inv X pins σ (tupsAt H N ps) { s with heap := h', toks := tk }
  | 0, ps, hl, _ => by
    obtain rfl := List.length_eq_zero_iff.mp hl
    rw [tupsAt_nil]
    exact I.kept k
  | n + 1, ps, hl, ht => by
    rcases List.eq_nil_or_concat ps with rfl | ⟨qs, p, rfl⟩
    · cases hl
    · rw [List.concat_eq_append] at hl ht ⊢
      have hq : qs.length = n := by simpa using hl
      have I0 := inv_tups (tk := tk) I hN k n qs hq fun j q hj => ht j q (by
        rw [List.getElem?_append_left (lt_of_get hj)]
        exact hj)
      rw [tupsAt_snoc]
      obtain ⟨x, y, r1, r2, tp⟩ := ht qs.length p (by rw [List.getElem?_append_right (Nat.le_refl _), Nat.sub_self]; rfl)
      have hle : s.heap.objs.size ≤ N + qs.length := Nat.le_trans hN (Nat.le_add_right _ _)
      have nH : H (N + qs.length) = none := I.hok.fresh hle
      have nT : tupsAt H N qs (N + qs.length) = none := by rw [tupsAt_out (.inr (Nat.le_refl _))]; exact nH
      exact I0.take (h' := h') (t' := tk) (fun b ob _ e => e) (I.fpOk hle nT) ⟨by show 2 ≤ sizeLine; decide, [x, y], .cons r1 (.cons r2 .nil), ⟨_, tp, rfl, _, rfl⟩⟩
end
/-- list(zip(a, b)) -/
def tLz (K : PySem.W.Frag) (ta : TA) : TE := fun σ H Q => ta σ H fun vs H1 => ∃ (c d : Src) (xs ys : List V), vs = [.ref c.ad, .ref d.ad] ∧ c.Sq K H1 xs ∧ d.Sq K H1 ys ∧ (xs.zip ys).length ≤ 1000000 ∧
  ∀ N L : Nat, (∀ b : Nat, N ≤ b → H1 b = none) → H1 L = none → L < N → Q (.ref L) (upd (tupsAt H1 N (xs.zip ys)) L (.lst (refs N (xs.zip ys).length)))
theorem boot_zipT : bootBuiltins "zip" = some (.type "zip") := by decide +kernel
theorem boot_listT : bootBuiltins "list" = some (.type "list") := by decide +kernel
theorem acc_refs {N n : Nat} {acc : Array Value} (hs : acc.size = n) (h : ∀ j, j < n → acc[j]? = some (.ref (N + j))) : Vals (refs N n) acc.toList := by
  have e : acc.toList = (List.range n).map fun j => Value.ref (N + j) := by
    apply List.ext_getElem?
    intro j
    rw [Array.getElem?_toList, List.getElem?_map]
    rcases Nat.lt_or_ge j n with z | z
    · rw [h j z, List.getElem?_range z]
      rfl
    · rw [Array.getElem?_eq_none (by omega), List.getElem?_eq_none (by rw [List.length_range]; exact z)]
      rfl
  rw [e]
  unfold refs
  have go : ∀ l : List Nat, Vals (l.map fun j => V.ref (N + j)) (l.map fun j => Value.ref (N + j)) := fun l => by
    induction l with
    | nil => exact .nil
    | cons a l ih => exact .cons rfl ih
  exact go _
theorem pe_lz {X : Cx} {e e2 : Expr} {ta : TA} {p p1 pos pos2 : Pos} (hc : X.calm = true) (hgl : Gl X "list") (hml : X.mg "list" = none) (hg : Gl X "zip") (hm : X.mg "zip" = none) (ha : PA X [e, e2] ta)
    (hs : starEach [e, e2] X.env = (false, eval e X.env) :: starEach [e2] X.env := by rfl) (hpl : (backTo pos (starEach [e2] X.env)).any (·.1) = false := by rfl)
    (hs2 : starEach [.Call (.Name "zip" p) [e, e2] [] pos] X.env = (false, eval (.Call (.Name "zip" p) [e, e2] [] pos) X.env) :: starEach [] X.env := by rfl) (hpl2 : (backTo pos2 (starEach [] X.env)).any (·.1) = false := by rfl) :
    PE X (.Call (.Name "list" p1) [.Call (.Name "zip" p) [e, e2] [] pos] [] pos2) (tLz X.K ta) := by
  refine ⟨fun pins s σ H Q I h => ?_⟩
  refine wpAny_Call_Name_kw (ld_blt I hgl hml boot_listT ?_)
  refine PyProof.Rows.callWith_type1 ?_ hs2 hpl2
  rw [hs2]
  show wpAny _ _ (spliced ((false, eval (.Call (.Name "zip" p) [e, e2] [] pos) X.env) :: backTo pos2 (starEach [] X.env))) _ _ s
  refine Calls.spliced_cons ?_
  refine wpAny_Call_Name_kw (ld_blt I hg hm boot_zipT ?_)
  refine PyProof.Rows.callWith_type1 (thn (ha.run pos pins s σ H _ I h) fun us s1 ⟨vs, H1, I1, r1, q1⟩ => ?_) hs hpl
  obtain ⟨c, d, xs, ys, ex, hqx, hqy, hz1, q⟩ := q1
  subst ex
  cases r1 with
  | cons r rr =>
    cases rr with
    | cons r' rr =>
      cases rr
      cases r
      cases r'
      obtain ⟨us, rv, k1, _⟩ := Src.inv I1 hqx
      obtain ⟨ws, rw', k2, _⟩ := Src.inv I1 hqy
      have l1 := Src.is_lt k1
      have l2 := Src.is_lt k2
      refine zip_begins2 (c.begins us.toArray) (d.begins ws.toArray) k1 k2 fun h' hz hTI hTO h1 h2 hsz hk => ?_
      refine Calls.spliced_nil ?_
      have hd : X.A.handled = none := I.ok.hd hc
      have en : min us.toArray.size ws.toArray.size = (xs.zip ys).length := by rw [List.size_toArray, List.size_toArray, ← rv.length, ← rw'.length, List.length_zip]
      refine lz_call (s := { s1 with heap := h' }) (zip_sep2 (N := s1.heap.objs.size) (fp1 := [c.ad]) (fp2 := [d.ad]) (by simpa using l1) (by simpa using l2)) (Src.draws (prog := X.prog) (w := X.w) (A := X.A.in1.in1.in1) hd s1.heap.objs.size c (Nat.ne_of_lt l1) us.toArray) (Src.draws (prog := X.prog) (w := X.w) (A := X.A.in1.in1.in1) hd (s1.heap.objs.size + 1) d (Nat.ne_of_lt (Nat.lt_succ_of_lt l2)) ws.toArray)
        hz hTI hTO ⟨c.it0 h1, Src.is_keep hk k1⟩ ⟨d.it0 h2, Src.is_keep hk k2⟩ (fun b hb => ?_) (by rw [en]; exact hz1) fun acc c' h2 tk g e kp => ?_
      · have e' : b = s1.heap.objs.size ∨ b = c.ad ∨ b = s1.heap.objs.size + 1 ∨ b = d.ad := by simpa using hb
        show b < h'.objs.size
        rw [hsz]
        rcases e' with z | z | z | z
        · rw [z]; exact Nat.lt_add_of_pos_right (by decide)
        · rw [z]; exact Nat.lt_of_lt_of_le l1 (Nat.le_add_right _ _)
        · rw [z]; exact Nat.add_lt_add_left (by decide) _
        · rw [z]; exact Nat.lt_of_lt_of_le l2 (Nat.le_add_right _ _)
      · rw [en] at g
        have hsz' : ({ s1 with heap := h' } : Shared).heap.objs.size = s1.heap.objs.size + 5 := hsz
        rw [hsz'] at g e ⊢
        obtain ⟨g1, g2⟩ := g
        have keep : ∀ b o, s1.heap.get? b = some o → h2.get? b = some o := fun b o x => by
          have hb := Heap.lt_size x
          exact kp b o (Nat.ne_of_lt (Nat.lt_of_lt_of_le hb (Nat.le_add_right _ _))) (Nat.ne_of_lt (Nat.lt_of_lt_of_le hb (Nat.le_add_right _ _))) (Nat.ne_of_lt hb) (Nat.ne_of_lt (Nat.lt_of_lt_of_le hb (Nat.le_add_right _ _))) (hk b o x)
        have I2 := inv_tups (tk := tk) (N := s1.heap.objs.size + 5 + 1) I1 (Nat.le_add_right _ 6) keep _ (xs.zip ys) rfl fun j pr hj => by
          have hlt := lt_of_get hj
          obtain ⟨_, x, y, x1, y1, tp⟩ := g2 j hlt
          obtain ⟨hx, hy⟩ := List.getElem?_zip_eq_some.mp hj
          obtain ⟨u', hu', ru⟩ := rv.get hx
          obtain ⟨w', hw', rw2⟩ := rw'.get hy
          obtain rfl := at_same hu' x1
          obtain rfl := at_same hw' y1
          exact ⟨_, _, ru, rw2, tp⟩
        have nL : tupsAt H1 (s1.heap.objs.size + 5 + 1) (xs.zip ys) (s1.heap.objs.size + 5) = none := by
          rw [tupsAt_out (.inl (Nat.lt_succ_self _))]
          exact I1.hok.fresh (Nat.le_add_right _ _)
        have vr : Vals (refs (s1.heap.objs.size + 5 + 1) (xs.zip ys).length) acc.toList := acc_refs g1 fun j hj => (g2 j hj).1
        have lr : (refs (s1.heap.objs.size + 5 + 1) (xs.zip ys).length).length = (xs.zip ys).length := by unfold refs; rw [List.length_map, List.length_range]
        have I3 := I2.take (h' := h2) (t' := tk) (o := .lst (refs (s1.heap.objs.size + 5 + 1) (xs.zip ys).length)) (fun b ob _ e => e) (I1.fpOk (Nat.le_add_right _ _) nL) ⟨Nat.le_trans (by rw [lr]; exact hz1) m_le, acc.toList, c', vr, by simpa using e⟩
        exact ⟨.ref _, _, I3, rfl, q _ _ (fun b hb => I1.hok.fresh (Nat.le_trans (Nat.le_add_right _ 6) hb)) (I1.hok.fresh (Nat.le_add_right _ _)) (Nat.lt_succ_self _)⟩
end Sm
set_option Elab.async false
set_option linter.all false
set_option maxRecDepth 100000
set_option maxHeartbeats 2000000
/-! The layer: list(zip(a, b)) as an expression. -/
namespace Sm
open PySem PySem.Spec PyProof.Rows L2
theorem Reps.of_get {K : PySem.W.Frag} {H : Hp} {Z : AP} : ∀ {ds : List D} {vs : List V}, vs.length = ds.length → (∀ (i : Nat) (d : D), ds[i]? = some d → ∃ v, vs[i]? = some v ∧ Rep K H Z d v) → Reps K H Z ds vs
  | [], vs, hl, _ => List.length_eq_zero_iff.mp hl
  | d :: ds, [], hl, _ => by cases hl
  | d :: ds, v :: vs, hl, h => by
    obtain ⟨v', e, r⟩ := h 0 d rfl
    cases e
    exact ⟨v, vs, rfl, r, Reps.of_get (by simpa using hl) fun i d' e' => h (i + 1) d' e'⟩
section
variable {K : PySem.W.Frag} {C : Cn} {H : Hp} {U : AP} {σ : L2.St} {env : Env'}
/-- all stays, and a new list at L is owned by nobody but us -/
theorem Stt.newL {H' : Hp} {L : Addr} (S : Stt K C H U σ env) (k : ∀ b o, H b = some o → H' b = some o) (hn : H L = none) (hL : ∃ vs, H' L = some (.lst vs)) :
    Stp H U H' (fun b => U b ∨ b = L) ∧ Stt K C H' (fun b => U b ∨ b = L) σ env := by
  have th : ∀ b, H b ≠ none → H' b ≠ none := fun b hb => by
    cases e : H b with
    | none => exact absurd e hb
    | some o => rw [k b o e]; simp
  have s : Stp H U H' (fun b => U b ∨ b = L) := ⟨fun b o e _ _ => k b o e, fun b u => by
    rcases u with u | u
    · exact .inl u
    · exact .inr (by rw [u]; exact hn), th⟩
  refine ⟨s, S.len, fun b u => ?_, fun b u z => ?_, fun b z => th b (S.domB b z), S.tabs.ext k, fun i d e => ?_, fun i p d e => ?_, fun i ns e => ?_, S.inj⟩
  · rcases u with u | u
    · obtain ⟨vs, e⟩ := S.dom b u
      exact ⟨vs, k _ _ e⟩
    · rw [u]; exact hL
  · rcases u with u | u
    · exact S.dis b u z
    · exact S.domB b z (by rw [u]; exact hn)
  · obtain ⟨v, ev, r⟩ := S.vals i d e
    exact ⟨v, ev, Rep.stp S.dom s _ _ r⟩
  · obtain ⟨a, ea, u, o, q⟩ := S.owns i p d e
    refine ⟨a, ea, .inl u, ?_, q⟩
    cases d with
    | list ds =>
      obtain ⟨vs, ev, r⟩ := o
      exact ⟨vs, k _ _ ev, Reps.stp S.dom s _ _ r⟩
    | _ => exact o.elim
  · obtain ⟨a, ea, r⟩ := S.scrs i ns e
    exact ⟨a, ea, scrL_stp S.dom s r⟩
end
def eLz (a : EvA) : Ev := fun env => (a env).bind fun b => (frzL b.2 b.1).bind fun c => match c.1 with
  | [d, e] => (seqOf d).bind fun ds => (seqOf e).bind fun es => if (ds.zip es).length ≤ 1000000 then some (.fr (.list (ziD ds es)), c.2) else none
  | _ => none
theorem ev_lz {X : Cx} {C : Cn} {e e2 : Expr} {f : EvA} {p p1 pos pos2 : Pos} (hgl : Gl X "list") (hml : X.mg "list" = none) (hg : Gl X "zip") (hm : X.mg "zip" = none) (ha : EvAs X C [e, e2] f) (hc : X.calm = true := by rfl)
    (hs : starEach [e, e2] X.env = (false, eval e X.env) :: starEach [e2] X.env := by rfl) (hpl : (backTo pos (starEach [e2] X.env)).any (·.1) = false := by rfl)
    (hs2 : starEach [.Call (.Name "zip" p) [e, e2] [] pos] X.env = (false, eval (.Call (.Name "zip" p) [e, e2] [] pos) X.env) :: starEach [] X.env := by rfl) (hpl2 : (backTo pos2 (starEach [] X.env)).any (·.1) = false := by rfl) :
    EvE X C (.Call (.Name "list" p1) [.Call (.Name "zip" p) [e, e2] [] pos] [] pos2) (eLz f) :=
  PE.weaken (pe_lz hc hgl hml hg hm ha hs hpl hs2 hpl2) fun σ H Q ⟨U, env, r, env', st, e, q⟩ => by
    simp only [eLz, Option.bind_eq_some_iff] at e
    obtain ⟨⟨rs, e1⟩, hf, ⟨as, e2⟩, hd, e⟩ := e
    simp only at e
    split at e
    · simp only [Option.bind_eq_some_iff] at e
      obtain ⟨ds', hds, es', hes, e⟩ := e
      split at e
      · rename_i hz
        obtain ⟨rfl, rfl⟩ := Prod.mk.inj (Option.some.inj e)
        refine ⟨U, env, _, e1, st, hf, fun vs H1 U1 s1 st1 r1 => ?_⟩
        obtain ⟨U2, s2, st2, v, t, rfl, r2, w, t2, rfl, r3, r4⟩ := frzL_ok st1 r1 hd
        cases r4
        obtain ⟨c, rfl, sd⟩ := seqOf_src r2 hds
        obtain ⟨d, rfl, sd2⟩ := seqOf_src r3 hes
        obtain ⟨xs, hx, rx⟩ := sd.sq
        obtain ⟨ys, hy, ry⟩ := sd2.sq
        have ez : (xs.zip ys).length = (ds'.zip es').length := by rw [List.length_zip, List.length_zip, rx.length, ry.length]
        refine ⟨c, d, xs, ys, rfl, hx, hy, by rw [ez]; exact hz, fun N L hN hL hlt => ?_⟩
        have k : ∀ b o, H1 b = some o → upd (tupsAt H1 N (xs.zip ys)) L (.lst (refs N (xs.zip ys).length)) b = some o := fun b o eb => by
          rw [upd_ne (ne_of_none eb hL)]
          exact tupsAt_old hN eb
        obtain ⟨s3, st3⟩ := st2.newL k hL ⟨_, upd_same⟩
        refine q (.ref L) _ _ ((s1.trans s2).trans s3) st3 ⟨L, rfl, .inr rfl, ⟨_, upd_same, Reps.of_get ?_ fun i dd hi => ?_⟩, fun i pp e h1 h2 => ?_⟩
        · unfold refs ziD
          rw [List.length_map, List.length_map, List.length_range, ez]
        · unfold ziD at hi
          rw [List.getElem?_map, Option.map_eq_some_iff] at hi
          obtain ⟨⟨d1, d2⟩, hi, rfl⟩ := hi
          have hlt2 := lt_of_get hi
          obtain ⟨g1, g2⟩ := List.getElem?_zip_eq_some.mp hi
          obtain ⟨x, ex, rx'⟩ := rx.get g1
          obtain ⟨y, ey, ry'⟩ := ry.get g2
          refine ⟨.ref (N + i), ?_, N + i, [x, y], rfl, .inl (.inl ?_), ?_⟩
          · unfold refs
            rw [List.getElem?_map, List.getElem?_range (by rw [ez]; exact hlt2)]
            rfl
          · rw [upd_ne (Nat.ne_of_gt (Nat.lt_of_lt_of_le hlt (Nat.le_add_right _ _)))]
            exact tupsAt_get (p := (x, y)) (List.getElem?_zip_eq_some.mpr ⟨ex, ey⟩)
          · exact Reps.stp st2.dom s3 _ _ (Reps.cons rx' (.one ry'))
        · obtain ⟨a, e1', u, _⟩ := st2.owns i pp e h1
          rw [e1'] at h2
          cases h2
          obtain ⟨ws, e3⟩ := st2.dom _ u
          rw [hL] at e3; cases e3
      · cases e
    · cases e
end Sm
set_option Elab.async false
set_option linter.all false
set_option maxRecDepth 100000
set_option maxHeartbeats 2000000
/-! The layer: min(some, key=lambda a: ..). -/
namespace Sm
open PySem PySem.Spec PyProof.Rows L2
/-! ### a lambda of one parameter -/
structure Lam1 (sc scope : Scope) (a : Str) : Prop where
  kind : scope.kind = .function
  co : scope.isCoroutine = false
  gen : scope.isGenerator = false
  par : scope.names.lookup a = some .local
  loc : ∀ y, scope.names.lookup y = some .local → y = a
  cell : ∀ y ∈ scope.names, y.2 ≠ .cell
  free : ∀ y ∈ scope.names, y.2 = .free → sc.names.lookup y.1 = some .cell ∨ sc.names.lookup y.1 = some .free
def lam1B (sc scope : Scope) (a : Str) : Bool :=
  (match scope.kind with | .function => true | _ => false) && !scope.isCoroutine && !scope.isGenerator && decide (scope.names.lookup a = some .local) && (scope.names.all fun y => !decide (y.2 = .local) || decide (y.1 = a)) && (scope.names.all fun y => !decide (y.2 = .cell)) &&
    scope.names.all fun y => !decide (y.2 = .free) || decide (sc.names.lookup y.1 = some .cell) || decide (sc.names.lookup y.1 = some .free)
theorem lam1_by {sc scope : Scope} {a : Str} (h : lam1B sc scope a = true) : Lam1 sc scope a := by
  unfold lam1B at h
  simp only [Bool.and_eq_true, Bool.or_eq_true, Bool.not_eq_true', decide_eq_true_eq, decide_eq_false_iff_not, List.all_eq_true] at h
  obtain ⟨⟨⟨⟨⟨⟨h1, h2⟩, h3⟩, h4⟩, h5⟩, h6⟩, h7⟩ := h
  refine ⟨?_, h2, h3, h4, fun y hy => ?_, h6, fun y hy e => ?_⟩
  · split at h1
    · assumption
    · cases h1
  · rcases h5 _ (PySem.mem_of_lookup hy) with z | z
    · exact absurd rfl z
    · exact z
  · rcases h7 y hy with (z | z) | z
    · exact absurd e z
    · exact .inl z
    · exact .inr z
abbrev lamC (X : Cx) (A : Around) (s : Shared) (H : Hp) (scope : Scope) (f c' : Addr) : Cx := (LamX.lamCx X A X.stack s H (fun _ _ _ => False) scope f c').nox
section
variable {X : Cx} {pins : List (Addr × Obj)} {σ : L2.St} {H : Hp} {s : Shared}
theorem Lam1.has {scope : Scope} {a : Str} (L : Lam1 X.env.scope scope a) (ok : X.Ok) : ∀ y ∈ scope.names, y.2 = .free → ∃ c, X.env.cells.lookup y.1 = some c := fun y hy e => ok.has _ (L.free y hy e)
theorem lam1_start {A : Around} {scope : Scope} {f c' : Addr} {h₁ : Heap} {tk : Nat} {a : Str} {i : Nat} {v : V} {u : Value} (I : Inv X pins σ H s) (L : Lam1 X.env.scope scope a) (e0 : Env0 X.prog X.w X.K X.mg X.base A X.stack s H) (hd : A.handled = none)
    (hN : X.N.Nodup) (hi : X.N[i]? = some a) (r : RelV v u) (hns : h₁.Ns s.heap.objs.size fun y => [(a, u)].reverse.lookup y) (kp : ∀ b o, s.heap.get? b = some o → h₁.get? b = some o) :
    Inv (lamC X A s H scope f c') [] (σ.set i (some v)) H { s with heap := h₁, toks := tk } := by
  have hfree := L.has I.ok
  have inCl : ∀ {y c}, (cloFrom X.env.cells scope.names []).lookup y = some c → X.env.cells.lookup y = some c := fun {y c} e => by
    rcases cloFrom_mem (PySem.mem_of_lookup e) with z | ⟨h1, h2⟩
    · cases z
    · obtain ⟨c1, hc⟩ := hfree _ h1 rfl
      replace hc : X.env.cells.lookup y = some c1 := hc
      rw [hc] at h2
      rw [hc, h2]
      rfl
  have clHas : ∀ {y}, scope.names.lookup y = some .free → ∃ c, (cloFrom X.env.cells scope.names []).lookup y = some c := fun {y} hl =>
    mem_lookup (cloFrom_has (cells := X.env.cells) (acc := []) (PySem.mem_of_lookup hl : (y, NameKind.free) ∈ scope.names))
  have noE : ∀ b : Addr, b ∉ ([] : List Addr) := fun b z => by cases z
  have isC : ∀ {c : Addr} {w : Option Value}, s.heap.IsCell c w → h₁.IsCell c w := fun {c w} ⟨o, ho, hd⟩ => ⟨o, kp _ _ ho, hd⟩
  constructor
  · constructor
    · exact e0.mod
    · exact L.kind
    · rfl
    · rfl
    · exact Nat.le_refl _
    · exact fun x y c e1 e2 => I.ok.inj x y c (inCl e1) (inCl e2)
    · intro y hy
      replace hy : scope.names.lookup y = some .cell ∨ scope.names.lookup y = some .free := hy
      rcases hy with hy | hy
      · exact absurd rfl (L.cell _ (PySem.mem_of_lookup hy))
      · exact clHas hy
    · intro y c z _
      exact absurd (show false = true from z) Bool.false_ne_true
    · exact fun _ => hd
    · exact Around.frames_deeper e0.frames
    · exact .inr ⟨rfl, rfl⟩
    · exact fun b z => absurd z (noE b)
    · exact e0.bs
    · exact e0.bsz
    · exact fun b _ _ => noE b
    · exact fun b z => absurd z (noE b)
    · exact e0.funs
    · exact e0.frf
  · rfl
  · exact e0.bare
  · exact Un.kept kp
  · refine ⟨_, hns, fun j y w e1 e2 e3 => ?_⟩
    replace e1 : X.N[j]? = some y := e1
    have hlen : i < σ.length := by rw [I.len]; exact lt_of_get hi
    rcases (show Vis scope y from e3) with k | k | k
    · have hy := L.loc y k
      subst hy
      have hji : j = i := (List.getElem?_inj (lt_of_get e1) hN).mp (e1.trans hi.symm)
      subst hji
      rw [List.getElem?_set_self hlen] at e2
      cases e2
      exact ⟨u, r, .inl ⟨k, by simp [List.lookup]⟩⟩
    · exact absurd rfl (L.cell _ (PySem.mem_of_lookup k))
    · have hji : i ≠ j := fun z => by
        subst z
        rw [hi] at e1
        cases e1
        rw [L.par] at k
        cases k
      rw [List.getElem?_set_ne hji] at e2
      obtain ⟨m, hn, hl⟩ := I.loc
      have fr := L.free _ (PySem.mem_of_lookup k) rfl
      obtain ⟨w', r', q⟩ := hl j y w e1 e2 (fr.elim (fun k => .inr (.inl k)) fun k => .inr (.inr k))
      obtain ⟨c2, h2⟩ := clHas k
      refine ⟨w', r', .inr ⟨.inr k, c2, h2, ?_⟩⟩
      have c1 := inCl h2
      rcases q with ⟨k', _⟩ | ⟨_, c3, e', z⟩
      · replace k' : X.env.scope.names.lookup y = some .local := k'
        rcases fr with k2 | k2 <;> rw [show X.env.scope.names.lookup y = _ from k2] at k' <;> cases k'
      · rw [c1] at e'
        cases e'
        exact isC z
  · intro y c e
    obtain ⟨w', z⟩ := I.cell y c (inCl e)
    exact ⟨w', isC z⟩
  · exact e0.hok.fresh (Nat.le_refl _)
  · exact fun y c e => I.freeC y c (inCl e)
  · intro q hq
    cases hq
  · exact e0.hok.kept kp
  · rw [List.length_set]
    exact I.len
/-- the call of such a lambda -/
theorem lam1_call {f c' : Addr} {a : Str} {i k : Nat} {v : V} {u : Value} {params : Arguments} {body : Expr} {scope : Scope} {pm ctv : Value} {tb : TE} {Q : VK} {E : Value → Shared → Prop} (I : Inv X pins σ H s) (L : Lam1 X.env.scope scope a) (hr : Room (k + 1) X.A.in1)
    (hf : s.heap.get? f = some (PySem.W.kla_obj "<lambda>" (X.env.qual ++ "<lambda>") params body scope (cloFrom X.env.cells scope.names []) pm c' ctv)) (hc : H c' = some (LamX.CodeO c' (X.env.qual ++ "<lambda>")))
    (hbind : ∀ (q : Str) (cl : List (Str × Addr)) (pm cv ctv u : Value), bindArgs (PySem.W.kla_fn "<lambda>" q params body scope cl pm cv ctv) ⟨[u], []⟩ = pure [(a, u)]) (hN : X.N.Nodup) (hi : X.N[i]? = some a) (r : RelV v u)
    (hb : PE (lamC X X.A.in1 s H scope f c') body tb) (ht : tb (σ.set i (some v)) H Q) :
    wpAny (model X.prog X.w) X.A.in1 (call (.ref f) [u]) (fun x s' => ∃ y H', Inv X pins σ H' s' ∧ RelV y x ∧ Q y H' ∧ ∀ b o, s.heap.get? b = some o → H b = none → b ∉ frs X.stack → s'.heap.get? b = some o ∧ H' b = none) E s := by
  obtain ⟨⟨oc, vs, t, hoc, hdc, hvc⟩, _, _⟩ := I.hok c' _ hc
  have rc : codeAny (model X.prog X.w) X.A.in1 (.call (.ref f) ⟨[u], []⟩) (CR CX0 X.stack X.prog X.w H s Q fun _ _ _ => False) s := by
    refine PySem.W.kla_callFunE hr.depth hf rfl L.co L.gen rfl ⟨c', oc, vs, t, rfl, hoc, hdc, hvc⟩ ?_
    rw [hbind]
    refine wpAny_pure (wpAny_newFunctionEnv L.cell (fun y hy => ?_) (fun h₁ hns hsb => ⟨I.nolimit.fresh _ hsb, ?_⟩) L.kind)
    · obtain rfl : y = (a, u) := by simpa using hy
      exact L.par
    · show codeAny _ _ (.expr body (LamX.lamEnv X scope s.heap.objs.size f c')) _ _
      have kp : ∀ b o, s.heap.get? b = some o → h₁.get? b = some o := fun b o e => hsb.extBut b o (Nat.ne_of_lt (Heap.lt_size e)) (Heap.get?_push_of_some _ e)
      have J := lam1_start (A := X.A.in1) (f := f) (c' := c') (tk := s.toks + 1) I L I.env0.in1 hr.hd hN hi r hns kp
      refine PySem.W.kla_codeExpr (wpAny_mono (hb.run [] _ _ H Q ?_ ht) (fun v s' hq => ?_) fun e s' hq => (show False from hq).elim)
      · exact J
      · obtain ⟨w', H', J', rv, q⟩ := hq
        exact ⟨w', H', J'.os, J'.bare, J'.base, J'.hok, rv, q⟩
  refine wpAny_call (codeAny_mono rc fun r s' hq => ?_)
  cases r with
  | error e => exact (show False from hq).elim
  | ok fl =>
    cases fl with
    | ret x =>
      have un := hq
      obtain ⟨_, H2, _, _, un, _, _, _⟩ := un
      obtain ⟨y, H', os, bare, un, hok, ry, q⟩ := hq
      obtain ⟨y', H'', J, ry', q'⟩ := I.after (Q := fun y2 H2 => y2 = y ∧ H2 = H') ⟨y, H', os, bare, un, hok, ry, rfl, rfl⟩
      obtain ⟨rfl, rfl⟩ := q'
      exact ⟨y', H'', J, ry', q, fun b o e n nf => ⟨un.keep b o e n nf (by simp), un.free b o e n (by simp)⟩⟩
    | next => exact False.elim hq
    | brk => exact False.elim hq
    | cont => exact False.elim hq
end
end Sm
set_option Elab.async false
set_option linter.all false
set_option maxRecDepth 100000
set_option maxHeartbeats 4000000
/-! The layer: min(some, key=lambda a: ..), the loop. -/
namespace Sm
open PySem PySem.Spec PyProof.Rows L2
section
variable {X : Cx} {pins : List (Addr × Obj)} {σ : L2.St} {H : Hp} {s : Shared}
/-- a lambda is made (and nothing that was tracked is lost) -/
theorem lam_makeT {T : List (Addr × Str)} {c P : Addr} {params : Arguments} {body : Expr} {scope : Scope} {pos : Pos} {E : Value → Shared → Prop} {Q : Value → Shared → Prop} (I : Inv X pins σ H s) (TB : LamX.TabB X.base X.mg c P) (hcode : X.env.code = .ref c)
    (hm : (P, X.env.qual ++ "<lambda>") ∈ T) (hu : ∀ p ∈ T, p.1 = P → p.2 = X.env.qual ++ "<lambda>") (hT : LamX.Tabs T H) (hdef : defaultsOf params X.env = ([], [])) (hfree : ∀ y ∈ scope.names, y.2 = .free → ∃ c, X.env.cells.lookup y.1 = some c)
    (h : ∀ (f c' : Addr) (pm ctv : Value) (H1 : Hp) (s' : Shared), Inv X pins σ H1 s' → LamX.ExtN H H1 → Thr H H1 → LamX.Tabs T H1 →
      s'.heap.get? f = some (PySem.W.kla_obj "<lambda>" (X.env.qual ++ "<lambda>") params body scope (cloFrom X.env.cells scope.names []) pm c' ctv) → H1 f = none → f ∉ frs X.stack → H1 c' = some (LamX.CodeO c' (X.env.qual ++ "<lambda>")) → Q (.ref f) s') :
    wpAny (model X.prog X.w) X.A (eval (.Lambda params body scope pos) X.env) Q E s := by
  obtain ⟨ps, hP, ht, ha⟩ := hT _ hm
  have bP := TB.bm.keeps I.bk
  have hP' : s.heap.get? P = some { cls := .none, data := .fields ps } := I.hok P _ hP
  have far : ∀ f, s.heap.objs.size ≤ f → f ∉ frs X.stack := fun f hf z => by
    rcases List.mem_cons.mp (I.stkSub _ z) with e | e
    · exact Nat.lt_irrefl _ (Nat.lt_of_lt_of_le I.lt (by rw [← e]; exact hf))
    · exact I.nofs hf e
  apply PySem.W.kla_eval hdef
  by_cases hin : ∃ cv, codeAmong pos ps.toList = some cv
  · obtain ⟨cv, hc⟩ := hin
    obtain ⟨c', rfl, hco⟩ := ha pos cv hc
    apply PySem.W.kla_makeFunctionHit (mg := X.mg) (c := c) (P := P) (ps := ps) (closure_ok hfree) I.ok.glob (I.mod.glob.keeps I.bk) hcode (TB.code.keeps I.bk) hP' ht hc bP
    intro ctv h' tk hx hsz
    have I1 := I.kept (t' := tk) (h' := h'.push (PySem.W.kla_obj "<lambda>" (X.env.qual ++ "<lambda>") params body scope (cloFrom X.env.cells scope.names []) ((X.mg "__name__").getD .none) c' ctv)) fun b o e => Heap.get?_push_of_some _ (hx b o e)
    exact h _ c' _ ctv H _ I1 (LamX.ExtN.refl H) (fun b z => z) hT (Heap.get?_push_size _ rfl) (I.hok.fresh hsz) (far _ hsz) hco
  · have hc : codeAmong pos ps.toList = none := by
      cases e : codeAmong pos ps.toList with
      | none => rfl
      | some cv => exact absurd ⟨cv, e⟩ hin
    apply PySem.W.kla_makeFunction (mg := X.mg) (c := c) (P := P) (ps := ps) (closure_ok hfree) I.ok.glob (I.mod.glob.keeps I.bk) hcode (TB.code.keeps I.bk) hP' ht hc TB.gP bP
    intro c' ctv h' tk hx hge hlt hrec htb
    obtain ⟨c2, oc, vs, t, e2, hoc, hd, hv⟩ := hrec
    cases e2
    have nC : H c' = none := I.hok.fresh hge
    have hsz : s.heap.objs.size ≤ h'.objs.size := Nat.le_trans hge (Nat.le_of_lt hlt)
    have I1 := LamX.inv_table (t' := tk) (more := #[rawInt pos.line, rawInt pos.col, .ref c']) (h' := h'.push (PySem.W.kla_obj "<lambda>" (X.env.qual ++ "<lambda>") params body scope (cloFrom X.env.cells scope.names []) ((X.mg "__name__").getD .none) c' ctv)) I hP
      (fun b o hb e => Heap.get?_push_of_some _ (hx b o hb e)) (Heap.get?_push_of_some _ htb) hge ⟨oc, vs, t, Heap.get?_push_of_some _ hoc, hd, hv⟩
    have eP : ∀ o, upd (upd H P o) c' (LamX.CodeO c' (X.env.qual ++ "<lambda>")) P = some o := fun o => by rw [upd_ne (ne_of_none hP nC), upd_same]
    have eO : ∀ b o, b ≠ P → b ≠ c' → upd (upd H P o) c' (LamX.CodeO c' (X.env.qual ++ "<lambda>")) b = H b := fun b o h1 h2 => by rw [upd_ne h2, upd_ne h1]
    have hE : LamX.ExtN H (upd (upd H P (.tbl (ps ++ #[rawInt pos.line, rawInt pos.col, .ref c']))) c' (LamX.CodeO c' (X.env.qual ++ "<lambda>"))) := fun b o e n => by
      refine (eO b _ (fun z => ?_) (ne_of_none e nC)).trans e
      rw [z, hP] at e
      exact n ps (Option.some.inj e).symm
    have hTh : Thr H (upd (upd H P (.tbl (ps ++ #[rawInt pos.line, rawInt pos.col, .ref c']))) c' (LamX.CodeO c' (X.env.qual ++ "<lambda>"))) := fun b hb => by
      by_cases h1 : b = P
      · rw [h1, eP]
        simp
      · by_cases h2 : b = c'
        · exact absurd (by rw [h2]; exact nC) hb
        · rw [eO b _ h1 h2]
          exact hb
    have eL : (ps ++ #[rawInt pos.line, rawInt pos.col, .ref c']).toList = ps.toList ++ [rawInt pos.line, rawInt pos.col, .ref c'] := by simp
    have nf1 : h'.objs.size ≠ c' := Nat.ne_of_gt hlt
    have nf2 : h'.objs.size ≠ P := Nat.ne_of_gt (Nat.lt_of_lt_of_le (Heap.lt_size hP') hsz)
    refine h h'.objs.size c' _ ctv _ _ I1 hE hTh (fun p hp => ?_) (Heap.get?_push_size _ rfl) ((eO _ _ nf2 nf1).trans (I.hok.fresh hsz)) (far _ hsz) upd_same
    by_cases hb : p.1 = P
    · refine ⟨ps ++ #[rawInt pos.line, rawInt pos.col, .ref c'], by rw [hb]; exact eP _, by rw [eL]; exact PySem.TriplesOk_snoc _ _ _ _ ht, fun p' cv hcv => ?_⟩
      rw [eL] at hcv
      rw [hu p hp hb]
      rcases LamX.among_app _ ht hcv with z | z
      · obtain ⟨c0, e1, e2⟩ := ha p' cv z
        exact ⟨c0, e1, hE _ _ e2 LamX.codeO_ne⟩
      · exact ⟨c', z, upd_same⟩
    · obtain ⟨ps', a1, a2, a3⟩ := hT p hp
      refine ⟨ps', (eO _ _ hb (ne_of_none a1 nC)).trans a1, a2, fun p' cv hcv => ?_⟩
      obtain ⟨c0, e1, e2⟩ := a3 p' cv hcv
      exact ⟨c0, e1, hE _ _ e2 LamX.codeO_ne⟩
end
/-! ### the least by keys -/
def goMin : Int → D → List (Int × D) → D
  | _, d, [] => d
  | k, d, (k', d') :: r => if k' < k then goMin k' d' r else goMin k d r
def argMin : List (Int × D) → Option D
  | [] => none
  | (k, d) :: r => some (goMin k d r)
open Classical in
noncomputable def keyOf (i : Nat) (g : Ev) (env : Env') (d : D) : Option Int := (g (env.set i (.val d))).bind fun r => match r.1 with
  | .val (.int k) => if r.2 = env.set i (.val d) then some k else none
  | _ => none
noncomputable def keysOf (i : Nat) (g : Ev) (env : Env') : List D → Option (List (Int × D))
  | [] => some []
  | d :: ds => (keyOf i g env d).bind fun k => (keysOf i g env ds).map fun r => (k, d) :: r
theorem keysOf_get {i : Nat} {g : Ev} {env : Env'} : ∀ {ds : List D} {ks : List (Int × D)}, keysOf i g env ds = some ks → ks.length = ds.length ∧ ∀ (j : Nat) (d : D), ds[j]? = some d → ∃ k, ks[j]? = some (k, d) ∧ keyOf i g env d = some k
  | [], ks, h => by cases h; exact ⟨rfl, fun j d e => by simp at e⟩
  | d :: ds, ks, h => by
    simp only [keysOf, Option.bind_eq_some_iff, Option.map_eq_some_iff] at h
    obtain ⟨k, hk, r, hr, rfl⟩ := h
    obtain ⟨h1, h2⟩ := keysOf_get hr
    refine ⟨by simp [h1], fun j d' e => ?_⟩
    cases j with
    | zero =>
      cases e
      exact ⟨k, rfl, hk⟩
    | succ j => exact h2 j d' e
section
variable {K : PySem.W.Frag} {C : Cn} {H : Hp} {U : AP} {σ : L2.St} {env : Env'}
/-- a slot of which nothing was known is given back -/
theorem Stt.unput {i : Nat} {v : V} {sl : Sl} (S : Stt K C H U (σ.set i (some v)) (env.set i sl)) (h : env[i]? = some .no) : Stt K C H U σ env := by
  have ne : ∀ {j : Nat} {t : Sl}, env[j]? = some t → t ≠ .no → i ≠ j := fun e n z => by
    subst z
    rw [h] at e
    exact n (Option.some.inj e).symm
  have ee : ∀ {j : Nat} {t : Sl}, env[j]? = some t → t ≠ .no → (env.set i sl)[j]? = some t := fun e n => by
    rw [List.getElem?_set_ne (ne e n)]
    exact e
  have es : ∀ {j : Nat} {t : Sl}, env[j]? = some t → t ≠ .no → (σ.set i (some v))[j]? = σ[j]? := fun e n => List.getElem?_set_ne (ne e n)
  refine ⟨by simpa using S.len, S.dom, S.dis, S.domB, S.tabs, fun j d e => ?_, fun j p d e => ?_, fun j ns e => ?_, fun j k p q d e a e1 e2 e3 e4 => ?_⟩
  · have n : Sl.val d ≠ .no := fun z => by cases z
    obtain ⟨w, e1, r⟩ := S.vals j d (ee e n)
    exact ⟨w, (es e n).symm.trans e1, r⟩
  · have n : Sl.own p d ≠ .no := fun z => by cases z
    obtain ⟨a, e1, r⟩ := S.owns j p d (ee e n)
    exact ⟨a, (es e n).symm.trans e1, r⟩
  · have n : Sl.scr ns ≠ .no := fun z => by cases z
    obtain ⟨a, e1, r⟩ := S.scrs j ns (ee e n)
    exact ⟨a, (es e n).symm.trans e1, r⟩
  · have n1 : Sl.own p d ≠ .no := fun z => by cases z
    have n2 : Sl.own q e ≠ .no := fun z => by cases z
    exact S.inj j k p q d e a (ee e1 n1) (ee e2 n2) ((es e1 n1).trans e3) ((es e2 n2).trans e4)
end
end Sm
set_option Elab.async false
set_option linter.all false
set_option maxRecDepth 100000
set_option maxHeartbeats 4000000
/-! The layer: min(some, key=lambda a: ..), the call. -/
namespace Sm
open PySem PySem.Spec PyProof.Rows L2
structure MkSt (X : Cx) (pins : List (Addr × Obj)) (σ : L2.St) (C : Cn) (env : Env') (H0 : Hp) (U0 : AP) (f c' S I : Addr) (fo : Obj) (q : Str) (s : Shared) (Hc : Hp) (Uc : AP) : Prop where
  inv : Inv X pins σ Hc s
  stt : Stt X.K C Hc Uc σ env
  stp : Stp H0 U0 Hc Uc
  fn : s.heap.get? f = some fo
  fn0 : Hc f = none
  code : Hc c' = some (LamX.CodeO c' q)
  s0 : Hc S = none
  i0 : Hc I = none
section
variable {X : Cx} {pins : List (Addr × Obj)} {σ : L2.St} {C : Cn} {env : Env'} {H0 : Hp} {U0 : AP} {f c' S I l : Addr} {fo : Obj} {q : Str} {i : Nat} {g : Ev} {ds : List D} {ks : List (Int × D)} {vs0 : List V} {dr : D} {R : Result → Shared → Prop}
/-- what a turn of min's loop gives -/
def MkTurn (X : Cx) (pins : List (Addr × Obj)) (σ : L2.St) (C : Cn) (env : Env') (H0 : Hp) (U0 : AP) (f c' S I : Addr) (fo : Obj) (q : Str) (i : Nat) (g : Ev) : Prop :=
  ∀ (s : Shared) (Hc : Hp) (Uc : AP) (d : D) (v : V) (u : Value) (k : Int) (E : Value → Shared → Prop), MkSt X pins σ C env H0 U0 f c' S I fo q s Hc Uc → (∃ o, s.heap.get? S = some o) → (∃ o, s.heap.get? I = some o) → Rep X.K Hc (Zo C.B Uc) d v → RelV v u → keyOf i g env d = some k →
    wpAny (model X.prog X.w) X.A.in1 (call (.ref f) [u]) (fun x s' => ∃ H' U' t, x = .int k t ∧ MkSt X pins σ C env H0 U0 f c' S I fo q s' H' U' ∧ Stp Hc Uc H' U' ∧ ∀ b o, s.heap.get? b = some o → Hc b = none → b ∉ frs X.stack → s'.heap.get? b = some o) E s
theorem MkSt.turned {s : Shared} {Hc : Hp} {Uc : AP} {h' : Heap} {tk : Nat} {ch : List Addr} (M : MkSt X pins σ C env H0 U0 f c' S I fo q s Hc Uc) (k : ∀ b o, b ∉ ch → s.heap.get? b = some o → h'.get? b = some o) (hf : ∀ b ∈ ch, FpOk X pins Hc b) (nf : f ∉ ch) : MkSt X pins σ C env H0 U0 f c' S I fo q { s with heap := h', toks := tk } Hc Uc :=
  ⟨M.inv.turnedL k hf, M.stt, M.stp, k _ _ nf M.fn, M.fn0, M.code, M.s0, M.i0⟩
theorem lt_key (A : Around) (k1 k2 : Int) (t1 t2 : Tok) {Q : Value → Shared → Prop} {E : Value → Shared → Prop} {s : Shared} (h : Q (.bool (decide (k1 < k2))) s) : wpAny (model X.prog X.w) A (richCompare .Lt (.int k1 t1) (.int k2 t2)) Q E s := by
  refine CmpOf.ints_lt (prog := X.prog) (w := X.w) (A := A) (P := fun j v => ∃ t, v = .int (if j = 0 then k1 else k2) t) (fun j => if j = 0 then k1 else k2) (fun j v h => h) 0 1 _ _ _ _ _ ⟨t1, rfl⟩ ⟨t2, rfl⟩ ?_
  simpa using h
theorem mk_loop (hd : X.A.handled = none) (fpS : ∀ Hc : Hp, Hc S = none → FpOk X pins Hc S) (fpI : ∀ Hc : Hp, Hc I = none → FpOk X pins Hc I) (nS : S ∉ frs X.stack) (nI : I ∉ frs X.stack) (nSI : S ≠ I) (nlI : l ≠ I) (nfS : f ≠ S) (nfI : f ≠ I)
    (dm : Dom H0 U0) (hl : FzL H0 (Zo C.B U0) l vs0) (hr : Reps X.K H0 (Zo C.B U0) ds vs0) (hks : keysOf i g env ds = some ks) (turn : MkTurn X pins σ C env H0 U0 f c' S I fo q i g)
    (fin : ∀ s Hc Uc v u, MkSt X pins σ C env H0 U0 f c' S I fo q s Hc Uc → Rep X.K Hc (Zo C.B Uc) dr v → RelV v u → R (.ok (.ret u)) s) :
    ∀ (r j : Nat) (s : Shared) (Hc : Hp) (Uc : AP) (kb : Int) (db : D) (vb : V) (ub : Value) (tb : Tok) (c : Nat), ds.length - j = r → j ≤ ds.length → MkSt X pins σ C env H0 U0 f c' S I fo q s Hc Uc → s.heap.get? S = some (seqObj "list" #[ub, .int kb tb] c) → s.heap.IsListIter I l j →
      Rep X.K Hc (Zo C.B Uc) db vb → RelV vb ub → goMin kb db (ks.drop j) = dr → codeAny (model X.prog X.w) X.A (.builtin "min.loop" ⟨[.ref I, .ref f, .ref S], []⟩) R s := by
  have hname : (toString "min" ++ toString ".loop" : String) = "min.loop" := by decide
  obtain ⟨kl, kg⟩ := keysOf_get hks
  intro r
  induction r with
  | zero =>
    intro j s Hc Uc kb db vb ub tb c hj hle M oS oI rb ru hg
    have hjl : j = ds.length := by omega
    have hlc := fzL_stp M.stp (fun _ z => .inl z) hl
    have hrc := Reps.stp dm M.stp _ _ hr
    obtain ⟨us, rv, pl, hz⟩ := M.inv.list hlc.sq
    have usl : us.length = ds.length := by rw [← rv.length, hrc.length]
    refine codeAny_builtin PySem.F.entry_min_loop ?_
    rw [Around.under_plainId PySem.F.plain_min_loop _]
    show wpAny _ X.A.in1 (seqItems? (.ref S) >>= _) _ _ _
    refine wpAny_bind (wpAny_seqItems oS rfl ?_)
    show wpAny _ X.A.in1 (tryCatch (pyNext (.ref I)) _ >>= _) _ _ _
    refine wpAny_bind (wpAny_tryCatch ((Walks.list (prog := X.prog) (w := X.w) (A := X.A.in1) hd I l nlI us.toArray).done _ _ _ ⟨by rw [List.size_toArray, usl, ← hjl]; exact oI, pl.isList⟩ fun h' tk hk => ?_))
    have oS' : h'.get? S = some (seqObj "list" #[ub, .int kb tb] c) := hk S _ (by simpa using nSI) oS
    have M1 := M.turned (tk := tk) (ch := [I]) hk (fun b hb => by rw [List.mem_singleton.mp hb]; exact fpI _ M.i0) (by simpa using nfI)
    show wpAny _ X.A.in1 (updateSeq S (fun _ => #[]) >>= _) _ _ _
    refine wpAny_bind ?_
    refine wpAny_updateSeq oS' rfl (wpAny_bind (wpAny_letGo (wpAny_pure ?_)))
    have sb := Heap.SameBut.update h' S (Obj.mapSeq fun _ => (#[] : Array Value))
    have M2 := M1.turned (tk := tk) (ch := [S]) (fun b o hb e => sb.extBut _ _ (by simpa using hb) e) (fun b hb => by rw [List.mem_singleton.mp hb]; exact fpS _ M.s0) (by simpa using nfS)
    have e : db = dr := by
      rw [hjl, ← kl, List.drop_length] at hg
      exact hg
    rw [e] at rb
    exact fin _ Hc Uc vb ub M2 rb ru
  | succ r ih =>
    intro j s Hc Uc kb db vb ub tb c hj hle M oS oI rb ru hg
    have hlt : j < ds.length := by omega
    have hlc := fzL_stp M.stp (fun _ z => .inl z) hl
    have hrc := Reps.stp dm M.stp _ _ hr
    obtain ⟨us, rv, pl, hz⟩ := M.inv.list hlc.sq
    have usl : us.length = ds.length := by rw [← rv.length, hrc.length]
    refine codeAny_builtin PySem.F.entry_min_loop ?_
    rw [Around.under_plainId PySem.F.plain_min_loop _]
    show wpAny _ X.A.in1 (seqItems? (.ref S) >>= _) _ _ _
    refine wpAny_bind (wpAny_seqItems oS rfl ?_)
    show wpAny _ X.A.in1 (tryCatch (pyNext (.ref I)) _ >>= _) _ _ _
    refine wpAny_bind (wpAny_tryCatch ((Walks.list (prog := X.prog) (w := X.w) (A := X.A.in1) hd I l nlI us.toArray).item j _ _ _ (by rw [List.size_toArray, usl]; exact hlt) ⟨oI, pl.isList⟩ fun u h' tk hP hst hk => ?_))
    have oS' : h'.get? S = some (seqObj "list" #[ub, .int kb tb] c) := hk S _ (by simpa using nSI) oS
    have M1 := M.turned (tk := tk) (ch := [I]) hk (fun b hb => by rw [List.mem_singleton.mp hb]; exact fpI _ M.i0) (by simpa using nfI)
    have hdj : ds[j]? = some ds[j] := List.getElem?_eq_getElem hlt
    obtain ⟨v, hv, rd⟩ := hrc.get hdj
    obtain ⟨u', hu', ruv⟩ := rv.get hv
    obtain rfl := at_same hu' hP
    obtain ⟨k1, hk1, hkey⟩ := kg j _ hdj
    have ed : ks.drop j = (k1, ds[j]) :: ks.drop (j + 1) := by
      have hlt' := lt_of_get hk1
      rw [List.drop_eq_getElem_cons hlt']
      rw [List.getElem?_eq_getElem hlt'] at hk1
      rw [Option.some.inj hk1]
    rw [ed] at hg
    obtain ⟨oI1, gI, gc, gd⟩ := hst.1
    show wpAny _ X.A.in1 (tryCatch (holding [u'] (call (.ref f) [u'])) _ >>= _) _ _ _
    refine wpAny_bind (wpAny_tryCatch (wpAny_holding (wpAny_mono (turn _ Hc Uc ds[j] v u' k1 _ M1 ⟨_, oS'⟩ ⟨_, gI⟩ rd ruv hkey) (fun x s2 hx => ?_) fun _ _ hF => hF)))
    obtain ⟨H2, U2, t2, rfl, M2, s2p, kp⟩ := hx
    have oS2 : s2.heap.get? S = some (seqObj "list" #[ub, .int kb tb] c) := kp S _ oS' M.s0 nS
    have oI2 : s2.heap.IsListIter I l (j + 1) := ⟨oI1, kp I _ gI M.i0 nI, gc, gd⟩
    have rb2 := Rep.stp M.stt.dom s2p _ _ rb
    have rd2 := Rep.stp M.stt.dom s2p _ _ rd
    show wpAny _ X.A.in1 (tryCatch (holding [u', .int k1 t2] (richCompare .Lt (.int k1 t2) (.int kb tb) >>= _)) _ >>= _) _ _ _
    refine wpAny_bind (wpAny_tryCatch (wpAny_holding (wpAny_bind (lt_key X.A.in1 k1 kb t2 tb ?_))))
    refine wpAny_bind (wpAny_holding (wpAny_truthy_bool ?_))
    refine wpAny_bind (wpAny_letGo (wpAny_pure ?_))
    by_cases hb' : k1 < kb
    · simp only [goMin, hb', if_true] at hg
      simp only [hb', decide_true, if_true]
      refine wpAny_bind ?_
      refine wpAny_updateSeq oS2 rfl (wpAny_bind (wpAny_letGo ?_))
      rw [hname]
      have sb := Heap.SameBut.update s2.heap S (Obj.mapSeq fun _ => #[u', .int k1 t2])
      obtain ⟨c2, hc2⟩ : ∃ c2, (s2.heap.update S (Obj.mapSeq fun _ => #[u', .int k1 t2])).get? S = some (seqObj "list" #[u', .int k1 t2] c2) := ⟨_, get?_update_seq oS2 fun _ => #[u', .int k1 t2]⟩
      have M3 := M2.turned (tk := s2.toks) (ch := [S]) (fun b o hb e => sb.extBut _ _ (by simpa using hb) e) (fun b hb => by rw [List.mem_singleton.mp hb]; exact fpS _ M2.s0) (by simpa using nfS)
      refine wpAny_pure ⟨plainId_quiet PySem.F.plain_min_loop _, ih (j + 1) _ H2 U2 k1 ds[j] v u' t2 c2 (by omega) hlt M3 hc2 ?_ rd2 ruv hg⟩
      obtain ⟨o3, g3, g4⟩ := oI2
      exact ⟨o3, sb.extBut _ _ nSI.symm g3, g4⟩
    · simp only [goMin, hb', if_false] at hg
      simp only [hb', decide_false, Bool.false_eq_true, if_false]
      refine wpAny_bind (wpAny_letGo ?_)
      rw [hname]
      exact wpAny_pure ⟨plainId_quiet PySem.F.plain_min_loop _, ih (j + 1) _ H2 U2 kb db vb ub tb c (by omega) hlt M2 oS2 oI2 rb2 ru hg⟩
end
end Sm
set_option Elab.async false
set_option linter.all false
set_option maxRecDepth 100000
set_option maxHeartbeats 4000000
/-! The layer: min(some, key=lambda a: ..), as an expression. -/
namespace Sm
open PySem PySem.Spec PyProof.Rows L2
section
variable {X : Cx} {pins : List (Addr × Obj)} {σ : L2.St} {C : Cn} {env : Env'} {H0 : Hp} {U0 : AP} {f c' l : Addr} {fo : Obj} {q : Str} {i : Nat} {g : Ev} {ds : List D} {ks : List (Int × D)} {vs0 : List V} {dr : D} {s : Shared}
theorem mk_call {Q : Value → Shared → Prop} {E : Value → Shared → Prop} (hd : X.A.handled = none) (inv : Inv X pins σ H0 s) (stt : Stt X.K C H0 U0 σ env) (fn : s.heap.get? f = some fo) (fn0 : H0 f = none) (code : H0 c' = some (LamX.CodeO c' q))
    (hl : FzL H0 (Zo C.B U0) l vs0) (hr : Reps X.K H0 (Zo C.B U0) ds vs0) (hks : keysOf i g env ds = some ks) (harg : argMin ks = some dr) (turn : ∀ S I, S ∉ frs X.stack → I ∉ frs X.stack → MkTurn X pins σ C env H0 U0 f c' S I fo q i g)
    (fin : ∀ s' Hc Uc v u, Inv X pins σ Hc s' → Stt X.K C Hc Uc σ env → Stp H0 U0 Hc Uc → Rep X.K Hc (Zo C.B Uc) dr v → RelV v u → Q u s') : wpAny (model X.prog X.w) X.A (call (.builtin "min") [.ref l] [(Str.ofString "key", .ref f)]) Q E s := by
  have hname : (toString "min" ++ toString ".loop" : String) = "min.loop" := by decide
  obtain ⟨us0, rv0, pl0, _⟩ := inv.list hl.sq
  have far : ∀ b, s.heap.objs.size ≤ b → b ∉ frs X.stack := fun b hf z => by
    rcases List.mem_cons.mp (inv.stkSub _ z) with e | e
    · exact Nat.lt_irrefl _ (Nat.lt_of_lt_of_le inv.lt (by rw [← e]; exact hf))
    · exact inv.nofs hf e
  refine kmk_tree PySem.F.kind_min PySem.F.plain_min PySem.F.entry_min (kmk_min_key _ _) ?_
  show wpAny _ X.A.in1 (Builtin.Builtins.bindParams "min" ["key", "default"] 0 ⟨[], [(Str.ofString "key", .ref f)]⟩ >>= _) _ _ s
  refine wpAny_bind (wpAny_of_eq (show Builtin.Builtins.bindParams "min" ["key", "default"] 0 ⟨[], [(Str.ofString "key", .ref f)]⟩ = pure [some (.ref f), none] from rfl) ?_)
  refine wpAny_bind (wpAny_pure ?_)
  refine wpAny_bind (wpAny_pyIter_list pl0.isList ?_)
  refine wpAny_bind (wpAny_newList ?_ (Nat.zero_le _))
  rw [hname]
  have hS : (s.heap.push { cls := .type "list_iterator", data := .fields #[.ref l, .int 0 0] }).objs.size = s.heap.objs.size + 1 := size_push' ..
  have leS : s.heap.objs.size ≤ (s.heap.push { cls := .type "list_iterator", data := .fields #[.ref l, .int 0 0] }).objs.size := by rw [hS]; exact Nat.le_succ _
  have nSI : (s.heap.push { cls := .type "list_iterator", data := .fields #[.ref l, .int 0 0] }).objs.size ≠ s.heap.objs.size := by rw [hS]; exact Nat.ne_of_gt (Nat.lt_succ_self _)
  have nlI : l ≠ s.heap.objs.size := fun z => by
    have e := hl.1
    rw [z, inv.hok.fresh (Nat.le_refl _)] at e
    cases e
  have nfI : f ≠ s.heap.objs.size := Nat.ne_of_lt (Heap.lt_size fn)
  have nfS : f ≠ (s.heap.push { cls := .type "list_iterator", data := .fields #[.ref l, .int 0 0] }).objs.size := Nat.ne_of_lt (Nat.lt_of_lt_of_le (Heap.lt_size fn) leS)
  have keep : ∀ b o, s.heap.get? b = some o → ((s.heap.push { cls := .type "list_iterator", data := .fields #[.ref l, .int 0 0] }).push (seqObj "list" #[] 0)).get? b = some o := fun b o e => Heap.get?_push_of_some _ (Heap.get?_push_of_some _ e)
  have M : MkSt X pins σ C env H0 U0 f c' (s.heap.push { cls := .type "list_iterator", data := .fields #[.ref l, .int 0 0] }).objs.size s.heap.objs.size fo q { s with heap := (s.heap.push { cls := .type "list_iterator", data := .fields #[.ref l, .int 0 0] }).push (seqObj "list" #[] 0) } H0 U0 :=
    ⟨inv.kept (t' := s.toks) keep, stt, .refl, keep _ _ fn, fn0, code, inv.hok.fresh leS, inv.hok.fresh (Nat.le_refl _)⟩
  have gI : ((s.heap.push { cls := .type "list_iterator", data := .fields #[.ref l, .int 0 0] }).push (seqObj "list" #[] 0)).get? s.heap.objs.size = some { cls := .type "list_iterator", data := .fields #[.ref l, .int 0 0] } := Heap.get?_push_of_some _ (Heap.get?_push_size _ rfl)
  have gS : ((s.heap.push { cls := .type "list_iterator", data := .fields #[.ref l, .int 0 0] }).push (seqObj "list" #[] 0)).get? (s.heap.push { cls := .type "list_iterator", data := .fields #[.ref l, .int 0 0] }).objs.size = some (seqObj "list" #[] 0) := Heap.get?_push_size _ rfl
  have fpS : ∀ Hc : Hp, Hc (s.heap.push { cls := .type "list_iterator", data := .fields #[.ref l, .int 0 0] }).objs.size = none → FpOk X pins Hc (s.heap.push { cls := .type "list_iterator", data := .fields #[.ref l, .int 0 0] }).objs.size := fun Hc hn => inv.fpOk leS hn
  have fpI : ∀ Hc : Hp, Hc s.heap.objs.size = none → FpOk X pins Hc s.heap.objs.size := fun Hc hn => inv.fpOk (Nat.le_refl _) hn
  have nS := far _ leS
  have nI := far _ (Nat.le_refl s.heap.objs.size)
  have tn := turn _ _ nS nI
  generalize (s.heap.push { cls := .type "list_iterator", data := .fields #[.ref l, .int 0 0] }).objs.size = S at *
  generalize s.heap.objs.size = I at *
  generalize (s.heap.push { cls := .type "list_iterator", data := .fields #[.ref l, .int 0 0] }).push (seqObj "list" #[] 0) = h1 at *
  refine wpAny_pure ⟨plainId_quiet PySem.F.plain_min_loop _, ?_⟩
  obtain ⟨kl, kg⟩ := keysOf_get hks
  have hne : 0 < ds.length := by
    cases ks with
    | nil => cases harg
    | cons a r => rw [← kl]; exact Nat.zero_lt_succ _
  obtain ⟨us, rv, pl, _⟩ := M.inv.list hl.sq
  have usl : us.length = ds.length := by rw [← rv.length, hr.length]
  refine codeAny_builtin PySem.F.entry_min_loop ?_
  rw [Around.under_plainId PySem.F.plain_min_loop _]
  show wpAny _ X.A.in1 (seqItems? (.ref S) >>= _) _ _ _
  refine wpAny_bind (wpAny_seqItems gS rfl ?_)
  show wpAny _ X.A.in1 (tryCatch (pyNext (.ref I)) _ >>= _) _ _ _
  refine wpAny_bind (wpAny_tryCatch ((Walks.list (prog := X.prog) (w := X.w) (A := X.A.in1) hd I l nlI us.toArray).item 0 _ _ _ (by rw [List.size_toArray, usl]; exact hne) ⟨⟨_, gI, rfl, rfl⟩, pl.isList⟩ fun u h' tk hP hst hk => ?_))
  have oS' : h'.get? S = some (seqObj "list" #[] 0) := hk S _ (by simpa using nSI) gS
  have M1 := M.turned (tk := tk) (ch := [I]) hk (fun b hb => by rw [List.mem_singleton.mp hb]; exact fpI _ M.i0) (by simpa using nfI)
  have hdj : ds[0]? = some ds[0] := List.getElem?_eq_getElem hne
  obtain ⟨v, hv, rd⟩ := hr.get hdj
  obtain ⟨u', hu', ruv⟩ := rv.get hv
  obtain rfl := at_same hu' hP
  obtain ⟨k1, hk1, hkey⟩ := kg 0 _ hdj
  obtain ⟨oI1, gI1, gc, gd⟩ := hst.1
  show wpAny _ X.A.in1 (tryCatch (holding [u'] (call (.ref f) [u'])) _ >>= _) _ _ _
  refine wpAny_bind (wpAny_tryCatch (wpAny_holding (wpAny_mono (tn _ H0 U0 ds[0] v u' k1 _ M1 ⟨_, oS'⟩ ⟨_, gI1⟩ rd ruv hkey) (fun x s2 hx => ?_) fun _ _ hF => hF)))
  obtain ⟨H2, U2, t2, rfl, M2, s2p, kp⟩ := hx
  have oS2 : s2.heap.get? S = some (seqObj "list" #[] 0) := kp S _ oS' M.s0 nS
  have oI2 : s2.heap.IsListIter I l 1 := ⟨oI1, kp I _ gI1 M.i0 nI, gc, gd⟩
  have rd2 := Rep.stp M.stt.dom s2p _ _ rd
  show wpAny _ X.A.in1 (updateSeq S (fun _ => #[u', .int k1 t2]) >>= _) _ _ _
  refine wpAny_bind ?_
  refine wpAny_updateSeq oS2 rfl ?_
  rw [hname]
  have sb := Heap.SameBut.update s2.heap S (Obj.mapSeq fun _ => #[u', .int k1 t2])
  obtain ⟨c2, hc2⟩ : ∃ c2, (s2.heap.update S (Obj.mapSeq fun _ => #[u', .int k1 t2])).get? S = some (seqObj "list" #[u', .int k1 t2] c2) := ⟨_, get?_update_seq oS2 fun _ => #[u', .int k1 t2]⟩
  have M3 := M2.turned (tk := s2.toks) (ch := [S]) (fun b o hb e => sb.extBut _ _ (by simpa using hb) e) (fun b hb => by rw [List.mem_singleton.mp hb]; exact fpS _ M2.s0) (by simpa using nfS)
  have hg : goMin k1 ds[0] (ks.drop 1) = dr := by
    cases ks with
    | nil => cases harg
    | cons a r =>
      cases hk1
      exact Option.some.inj harg
  obtain ⟨o3, g3, g4⟩ := oI2
  exact wpAny_pure ⟨plainId_quiet PySem.F.plain_min_loop _, mk_loop hd fpS fpI nS nI nSI nlI nfS nfI stt.dom hl hr hks tn (fun s' Hc Uc v u M hv hu => fin s' Hc Uc v u M.inv M.stt M.stp hv hu) (ds.length - 1) 1 _ H2 U2 k1 ds[0] v u' t2 c2 rfl hne M3 hc2 ⟨o3, sb.extBut _ _ nSI.symm g3, g4⟩ rd2 ruv hg⟩
end
end Sm
set_option Elab.async false
set_option linter.all false
set_option maxRecDepth 100000
set_option maxHeartbeats 4000000
/-! The layer: min(some, key=lambda a: ..), as an expression. -/
namespace Sm
open PySem PySem.Spec PyProof.Rows L2
noncomputable def eMinK (i : Nat) (f g : Ev) : Ev := fun env => (f env).bind fun a => (frz a.2 a.1).bind fun b => match b.1 with
  | .list ds => match b.2[i]? with
    | some .no => (keysOf i g b.2 ds).bind fun ks => (argMin ks).map fun d => (.val d, b.2)
    | _ => none
  | _ => none
section
variable {X : Cx} {C : Cn} {pos : Pos}
theorem mk_turn {pins : List (Addr × Obj)} {σ : L2.St} {env : Env'} {H0 : Hp} {U0 : AP} {fa c' S I : Addr} {i k : Nat} {g : Ev} {a : Str} {params : Arguments} {body : Expr} {scope : Scope} {pm ctv : Value} (hr : Room (k + 2) X.A) (L : Lam1 X.env.scope scope a)
    (hbind : ∀ (q : Str) (cl : List (Str × Addr)) (pm cv ctv u : Value), bindArgs (PySem.W.kla_fn "<lambda>" q params body scope cl pm cv ctv) ⟨[u], []⟩ = pure [(a, u)]) (hN : X.N.Nodup) (hi : X.N[i]? = some a)
    (hb : ∀ (s : Shared) (H : Hp) (fa c' : Addr), EvE (lamC X X.A.in1 s H scope fa c') C body g) (hno : env[i]? = some .no) (nS : S ∉ frs X.stack) (nI : I ∉ frs X.stack) (nf : fa ∉ frs X.stack) :
    MkTurn X pins σ C env H0 U0 fa c' S I (PySem.W.kla_obj "<lambda>" (X.env.qual ++ "<lambda>") params body scope (cloFrom X.env.cells scope.names []) pm c' ctv) (X.env.qual ++ "<lambda>") i g := by
  intro s Hc Uc d v u key E M hS hI rd ru hkey
  obtain ⟨oS, hS⟩ := hS
  obtain ⟨oI, hI⟩ := hI
  unfold keyOf at hkey
  rw [Option.bind_eq_some_iff] at hkey
  obtain ⟨⟨ra, e1⟩, hg, hkey⟩ := hkey
  simp only at hkey
  split at hkey
  · split at hkey
    · rename_i he1
      cases hkey
      subst he1
      have hie : i < env.length := lt_of_get hno
      have st1 := M.stt.put (i := i) (s := .val d) (v := v) hie rd
      refine wpAny_mono (lam1_call (k := k) (Q := fun y H' => y = .int key ∧ ∃ U', Stp Hc Uc H' U' ∧ Stt X.K C H' U' (σ.set i (some v)) (env.set i (.val d))) M.inv L hr.in1 M.fn M.code hbind hN hi ru (hb s Hc fa c') ⟨Uc, _, _, _, st1, hg, fun y H' U' sp st' ry => ?_⟩) (fun x s' hx => ?_) fun _ _ h => h
      · cases ry
        exact ⟨rfl, U', sp, st'⟩
      · obtain ⟨y, H', J, ry, ⟨rfl, U', sp, st'⟩, kp⟩ := hx
        obtain ⟨t, rfl⟩ := ry
        refine ⟨H', U', t, rfl, ⟨J, st'.unput hno, M.stp.trans sp, (kp _ _ M.fn M.fn0 nf).1, (kp _ _ M.fn M.fn0 nf).2, ?_, (kp _ _ hS M.s0 nS).2, (kp _ _ hI M.i0 nI).2⟩, sp, fun b o e n nb => (kp b o e n nb).1⟩
        refine sp.keep _ _ M.code (fun z => ?_) fun ps z => LamX.codeO_ne ps z
        obtain ⟨vs, e⟩ := M.stt.dom _ z
        rw [M.code] at e
        unfold LamX.CodeO at e
        cases e
    · cases hkey
  · cases hkey
theorem ev_minK {T : List (Addr × Str)} {i k : Nat} {c0 P0 : Addr} {e : Expr} {f g : Ev} {a : Str} {params : Arguments} {body : Expr} {scope : Scope} {p lpos kpos : Pos} (hg : Gl X "min") (hm : X.mg "min" = none) (TB : LamX.TabB X.base X.mg c0 P0) (hcode : X.env.code = .ref c0) (hT : C.T = T) (hmT : (P0, X.env.qual ++ "<lambda>") ∈ T)
    (hu : ∀ p ∈ T, p.1 = P0 → p.2 = X.env.qual ++ "<lambda>") (hr : Room (k + 2) X.A) (L : Lam1 X.env.scope scope a) (hN : X.N.Nodup) (hi : X.N[i]? = some a) (he : EvE X C e f) (hb : ∀ (s : Shared) (H : Hp) (fa c' : Addr), EvE (lamC X X.A.in1 s H scope fa c') C body g) (hc : X.calm = true := by rfl)
    (hdef : defaultsOf params X.env = ([], []) := by rfl) (hbind : ∀ (q : Str) (cl : List (Str × Addr)) (pm cv ctv u : Value), bindArgs (PySem.W.kla_fn "<lambda>" q params body scope cl pm cv ctv) ⟨[u], []⟩ = pure [(a, u)] := by intros; rfl)
    (hs : starEach [e] X.env = (false, eval e X.env) :: starEach [] X.env := by rfl) :
    EvE X C (.Call (.Name "min" p) [e] [⟨some "key", .Lambda params body scope lpos, kpos⟩] pos) (eMinK i f g) := by
  refine ⟨fun pins s σ H Q I h => ?_⟩
  obtain ⟨U, env, r, env', st, e, q⟩ := h
  simp only [eMinK, Option.bind_eq_some_iff] at e
  obtain ⟨⟨ra, e1⟩, hf, ⟨d, e2⟩, hd, e⟩ := e
  simp only at e
  split at e
  · rename_i ds
    split at e
    · rename_i hno
      simp only [Option.bind_eq_some_iff, Option.map_eq_some_iff] at e
      obtain ⟨ks, hks, dr, harg, e⟩ := e
      obtain ⟨rfl, rfl⟩ := Prod.mk.inj e
      refine wpAny_Call_Name_kw (ld_blt I hg hm boot_minX ?_)
      refine callWith_kw (thn ((pa_cons he pa_nil hs).run pos pins s σ H (fun vs H1 => ∃ v U2, vs = [v] ∧ Stp H U H1 U2 ∧ Stt X.K C H1 U2 σ e2 ∧ Rep X.K H1 (Zo C.B U2) (.list ds) v) I ⟨U, env, ra, e1, st, hf, fun v H1 U1 s1 st1 r1 => ?_⟩) fun us s1 ⟨vs, H1, I1, r1, q1⟩ => ?_) (by rw [hs]; rfl) (by rw [hs]; rfl)
      · obtain ⟨U2, s2, st2, r2⟩ := frz_ok st1 r1 hd
        exact ⟨v, U2, rfl, s1.trans s2, st2, r2⟩
      · obtain ⟨v, U2, rfl, s2, st2, l, vs0, rfl, fl, rr⟩ := q1
        cases r1 with
        | cons r0 r1 =>
          cases r1
          cases r0
          show wpAny _ _ (evalAll ((do let v ← eval (.Lambda params body scope lpos) X.env; standAt pos; pure v) :: [])) _ _ s1
          refine wpAny_evalAll_cons (wpAny_bind (lam_makeT I1 TB hcode hmT hu (by rw [← hT]; exact st2.tabs) hdef (L.has I1.ok) fun fa c' pm ctv H2 s3 I2 eN th T1 hfa hfn hfr hco => wpAny_bind (wpAny_standAt (wpAny_pure (wpAny_evalAll_nil ?_)))))
          have s3p : Stp H1 U2 H2 U2 := ext_stp eN th
          have st3 := st2.ext eN th (by rw [hT]; exact T1)
          have fl3 := fzL_stp s3p (fun _ z => .inl z) fl
          have rr3 := Reps.stp st2.dom s3p _ _ rr
          show wpAny _ _ (call (.builtin "min") [.ref l] [(Str.ofString "key", .ref fa)]) _ _ _
          refine mk_call (I2.ok.hd hc) I2 st3 hfa hfn hco fl3 rr3 hks harg (fun S I nS nI => mk_turn hr L hbind hN hi hb hno nS nI hfr) fun s' Hc Uc v u J st' sp' rv ru => ?_
          exact ⟨v, Hc, J, ru, q v Hc Uc ((s2.trans s3p).trans sp') st' rv⟩
    · cases e
  · cases e
end
end Sm
set_option Elab.async false
set_option linter.all false
set_option maxRecDepth 100000
set_option maxHeartbeats 1000000
/-! The layer: a def of the script that hands out a new list, which its caller owns. -/
namespace Sm
open PySem PySem.Spec PyProof.Rows L2
def spF (K : PySem.W.Frag) (T : List (Addr × Str)) (g : List Int → Option D) : Sp := fun vs H Q _ => ∃ (Z : AP) (a : Addr) (ns : List Int) (r : D), vs = [.ref a] ∧ g ns = some r ∧ LamX.Tabs T H ∧ (∀ b, Z b → H b ≠ none) ∧ ScrL K H Z a (ns.map V.int) ∧
  ∀ b H', LamX.ExtN H H' → Thr H H' → LamX.Tabs T H' → H b = none → OwnAt K H' (Zo Z (· = b)) b r → Q (.ref b) H'
def runF (n : Nat) (f : Ev) (ns : List Int) : Option D := match f (Sl.scr ns :: List.replicate (n - 1) Sl.no) with
  | some (.fr d, _) => some d
  | _ => none
def tF (K : PySem.W.Frag) (C : Cn) (f : Ev) : TS := fun Dn σ H => tE K C f σ H Dn.rt
theorem xf_ret {X : Cx} {C : Cn} {pos : Pos} {e : Expr} {f : Ev} (h : EvE X C e f) : PSs X [.Return (some e) pos] (tF X.K C f) := pss_one (PS.weaken (ps_ret h) fun Dn σ H q => q)
section
variable {P : Program} {w : World} {K : PySem.W.Frag} {mg : Str → Option Value} {base : Heap}
def BodyF (P : Program) (w : World) (K : PySem.W.Frag) (mg : Str → Option Value) (base : Heap) (T : List (Addr × Str)) (k : Nat) (N : List Str) (qual : Str) (st : Stmt) (f : Addr) (cd : Value → Prop) (F : Ev) : Prop :=
  ∀ (cdv : Value), cd cdv → ∀ (A : Around) (outer : List Env) (s : Shared) (H : Hp) (E : XK), Room k (A.deeper (envOfC qual (defScope st) s.heap.objs.size f cdv)) → ∀ C : Cn, C.T = T → PSs (cxOf CX0 P w K mg base N qual (defScope st) f cdv A outer s H E).nox (defBody st) (tF K C F)
theorem fn_F {x qual : Str} {st : Stmt} {f : Addr} {fd : FuncData} {N : List Str} {p0 : Str} {k : Nat} {T : List (Addr × Str)} {cd : Value → Prop} {F : Ev} (Fu : FunC K x qual st f fd cd) (S : FnScope N [p0] (defScope st)) (hps : 1 ≤ N.length) (b : BodyF P w K mg base T k N qual st f cd F) :
    FnOk P w K mg base CX0 (k + 1) f fd [p0] (spF K T (runF N.length F)) := by
  refine Fu.goes S (fun vs H Q E h => ?_) (fun cdv hcd A outer s H vs Q E hr h => ?_)
  · obtain ⟨_, _, _, _, rfl, _⟩ := h
    rfl
  · obtain ⟨Z, a, ns, r, rfl, hg, ht, hZ, hS, q⟩ := h
    refine ⟨_, b cdv hcd A outer s H E hr ⟨Z, 0, T⟩ rfl, ?_⟩
    unfold runF at hg
    split at hg
    · rename_i d e' hf
      cases hg
      have h0 : ∀ (i : Nat) (s : Sl), (Sl.scr ns :: List.replicate (N.length - 1) Sl.no)[i]? = some s → (i = 0 ∧ s = .scr ns) ∨ s = .no := fun i s e => by
        cases i with
        | zero =>
          cases e
          exact .inl ⟨rfl, rfl⟩
        | succ i =>
          rw [List.getElem?_cons_succ] at e
          have := List.mem_of_getElem? e
          rw [List.mem_replicate] at this
          exact .inr this.2
      have st0 : Stt K ⟨Z, 0, T⟩ H (fun _ => False) (start N [.ref a]) (Sl.scr ns :: List.replicate (N.length - 1) Sl.no) := by
        refine ⟨?_, fun a u => u.elim, fun a u => u.elim, hZ, ht, fun i d e => ?_, fun i p d e => ?_, fun i ns' e => ?_, fun i j p q d e a e1 => ?_⟩
        · unfold L2.start
          simp
        · rcases h0 i _ e with ⟨_, z⟩ | z <;> cases z
        · rcases h0 i _ e with ⟨_, z⟩ | z <;> cases z
        · rcases h0 i _ e with ⟨rfl, z⟩ | z
          · cases z
            exact ⟨a, start_get rfl, hS.mono (fun b z => by rcases z with z | z; exact z.elim; exact z)⟩
          · cases z
        · rcases h0 i _ e1 with ⟨_, z⟩ | z <;> cases z
      refine ⟨_, _, _, _, st0, hf, fun v H' U' s' st' rv => ?_⟩
      obtain ⟨l, rfl, ul, ol, _⟩ := rv
      have nl : H l = none := by
        rcases s'.own l ul with z | z
        · exact z.elim
        · exact z
      refine q l H' (fun b o e n => s'.keep b o e (fun z => z) n) s'.there st'.tabs nl (ol.mono fun b z => ?_)
      rcases z with z | z
      · exact .inl (by rw [z]; exact ul)
      · exact .inr z
    · cases hg
end
section
variable {X : Cx} {C : Cn} {pos : Pos} {k n : Nat} {ps : List Str} {x : Str} {p : Pos} {T : List (Addr × Str)}
/-- a call that hands on the script and is given a new list -/
def eCallF (g : List Int → Option D) (i : Nat) : Ev := fun env => match env[i]? with
  | some (.scr ns) => (g ns).map fun r => (.fr r, env)
  | _ => none
theorem Stt.gain {K : PySem.W.Frag} {H H' : Hp} {U : AP} {σ : L2.St} {env : Env'} {l : Addr} {r : D} (S : Stt K C H U σ env) (e : LamX.ExtN H H') (t : Thr H H') (tb : LamX.Tabs C.T H') (hl : H l = none) (ol : OwnAt K H' (Zo (Zo C.B U) (· = l)) l r) :
    Stp H U H' (fun b => U b ∨ b = l) ∧ Stt K C H' (fun b => U b ∨ b = l) σ env ∧ RepR K C H' (fun b => U b ∨ b = l) σ env (.fr r) (.ref l) := by
  have s : Stp H U H' (fun b => U b ∨ b = l) := ⟨fun b o h _ n => e b o h n, fun b u => by
    rcases u with u | u
    · exact .inl u
    · exact .inr (by rw [u]; exact hl), t⟩
  have hz : ∀ b, Zo C.B (fun b => U b ∨ b = l) b → Zo (Zo C.B U) (· = l) b := fun b z => by
    rcases z with (z | z) | z
    · exact .inr (.inl z)
    · exact .inl z
    · exact .inr (.inr z)
  have nl : ∀ (i : Nat) (p : Bool) (d : D) (a : Addr), env[i]? = some (Sl.own p d) → σ[i]? = some (some (V.ref a)) → a ≠ l := fun i p d a h1 h2 z => by
    obtain ⟨a', e1, u, _⟩ := S.owns i p d h1
    rw [h2] at e1
    cases e1
    obtain ⟨vs, h⟩ := S.dom a u
    rw [z, hl] at h
    cases h
  refine ⟨s, ⟨S.len, fun a u => ?_, fun a u b => ?_, fun a b => t a (S.domB a b), tb, fun i d e1 => ?_, fun i p d e1 => ?_, fun i ns e1 => ?_, S.inj⟩, l, rfl, .inr rfl, ol.mono hz, fun i p d h1 h2 => nl i p d l h1 h2 rfl⟩
  · rcases u with u | u
    · obtain ⟨vs, h⟩ := S.dom a u
      exact ⟨vs, e a _ h (fun ps z => by cases z)⟩
    · rw [u]
      cases r with
      | list ds =>
        obtain ⟨vs, h, _⟩ := ol
        exact ⟨vs, h⟩
      | _ => exact ol.elim
  · rcases u with u | u
    · exact S.dis a u b
    · rw [u] at b
      exact S.domB l b hl
  · obtain ⟨v, ev, r⟩ := S.vals i d e1
    exact ⟨v, ev, Rep.stp S.dom s _ _ r⟩
  · obtain ⟨a, ea, u, o, q⟩ := S.owns i p d e1
    refine ⟨a, ea, .inl u, ?_, q⟩
    cases d with
    | list ds =>
      obtain ⟨vs, h, r⟩ := o
      exact ⟨vs, e a _ h (fun ps z => by cases z), Reps.stp S.dom s _ _ r⟩
    | _ => exact o.elim
  · obtain ⟨a, ea, r⟩ := S.scrs i ns e1
    exact ⟨a, ea, scrL_stp S.dom s r⟩
theorem ev_callFH {g : List Int → Option D} {i : Nat} {y : Str} {py : Pos} (h : Has X.prog X.w X.K X.mg X.base k x ps (spF X.K T g)) (hT : C.T = T) (hr : Room k X.A) (hg : Gl X x)
    (ha : PE X (.Name y py) (tVar i)) (hdb : (x == ("__debug__" : Str)) = false := by decide) (he : starEach [.Name y py] X.env = (false, eval (.Name y py) X.env) :: starEach [] X.env := by rfl) (hpl : (backTo pos (starEach [] X.env)).any (·.1) = false := by rfl) :
    EvE X C (.Call (.Name x p) [.Name y py] [] pos) (eCallF g i) :=
  let ⟨_, _, F, hm, hk, hb⟩ := h
  PE.weaken (pe_call F hr hg hm hk hb .nil pass0 (pa_cons ha pa_nil he) hdb he hpl) fun σ H Q ⟨U, env, r, env', st, e, q⟩ => by
  unfold eCallF at e
  split at e
  · rename_i ns hn
    rw [Option.map_eq_some_iff] at e
    obtain ⟨r', hg', e⟩ := e
    obtain ⟨rfl, rfl⟩ := Prod.mk.inj e
    obtain ⟨ad, ea, hs⟩ := st.scrs i ns hn
    refine ⟨_, ea, Zo C.B U, ad, ns, r', rfl, hg', by rw [← hT]; exact st.tabs, fun b z => ?_, hs, fun l H' ex th tb nl ol => ?_⟩
    · rcases z with z | z
      · obtain ⟨ws, h⟩ := st.dom b z
        rw [h]; simp
      · exact st.domB b z
    · obtain ⟨s', st', rr⟩ := st.gain ex th (by rw [hT]; exact tb) nl ol
      exact q (.ref l) H' _ s' st' rr
  · cases e
end
end Sm
set_option Elab.async false
set_option linter.all false
set_option maxRecDepth 100000
set_option maxHeartbeats 1000000
/-! printed by gen.py: the defs' meaning, and that the program does so -/
namespace K52
open PySem PySem.Spec PyProof.Rows L2 Sm
def topS (i : Nat) : Stmt := PySem.Challenge.pw_worknets_k52_rows_of_integers_put_otherw.main.body.getD i (.Pass ⟨0, 0, 0, 0⟩)
section
variable {P : Program} {w : World} {K : PySem.W.Frag} {mg : Str → Option Value} {base : Heap} {T : List (Addr × Str)}
/-! ### dot -/
abbrev s_dot : Stmt := topS 1
theorem sc_dot : FnScope ["one", "other", "its", "mine"] ["one", "other"] (defScope s_dot) := ⟨rfl, rfl, rfl, by decide +kernel, rfl, by decide +kernel, by decide +kernel⟩
noncomputable def F_dot : Ex :=
  (xRet (eCb pSum (aCons (eLc [3, 2] (lZi (aCons (eVar 0) (aCons (eVar 1) aNil))) (gT 2 (gCons (gN 3) (gCons (gN 2) gNil))) bYes (eOp pMul (eVar 3) (eVar 2))) aNil)))
noncomputable def g_dot : List D → Option D := runP 4 2 F_dot
theorem b_dot (hN : base.NoSeer) (hgt : P.given.tree = none) (m_sum : mg "sum" = none) (m_zip : mg "zip" = none) {f : Addr} : Body P w K mg base T 41 ["one", "other", "its", "mine"] "dot" s_dot f (fun _ => True) F_dot := fun cdv hcode A outer s H E hr C hT => by
  have nd := sc_dot.nd
  have ax := ax_of (P := P) (w := w) (K := K) (mg := mg) (base := base) (N := ["one", "other", "its", "mine"]) (qual := "dot") (scope := defScope s_dot) (f := f) (cdv := cdv) (A := A) (outer := outer) (s := s) (H := H) (E := E) hr (by decide) hN hgt rfl rfl
  exact (xb_one (xs_ret (ev_cb (cr_sum rfl) cs_sum (by rfl) m_sum boot_sumX (ea_cons (ev_lc (own := [("mine", 3), ("its", 2)]) rfl nd (ei_zi (by rfl) m_zip (ea_cons (ev_var (pv 0)) (ea_cons (ev_var (pv 1)) ea_nil))) (blkOk_by (by kernel_rfl)) (by decide) (fun B s H Ca cl fp => (eg_tup rfl (egs_cons (eg_name (i := 3) nd rfl (by first | exact Or.inl rfl | exact Or.inr rfl)) (egs_cons (eg_name (i := 2) nd rfl (by first | exact Or.inl rfl | exact Or.inr rfl)) egs_nil)))) (fun B s H Ca cl fp => ets_nil) (fun B s H Ca cl fp => (ev_op op_mulA os_mul (ev_var (pv 3)) (ev_var (pv 2))))) ea_nil))))
theorem h_dot (hN : base.NoSeer) (hgt : P.given.tree = none) (m_sum : mg "sum" = none) (m_zip : mg "zip" = none) {f : Addr} {fd : FuncData} (Fu : FunC K "dot" "dot" s_dot f fd (fun _ => True)) (hm : mg "dot" = some (.ref f)) : Has P w K mg base 42 "dot" ["one", "other"] (spP K T 2 g_dot) :=
  ⟨f, fd, fn_P Fu sc_dot (by decide) (b_dot hN hgt m_sum m_zip), hm, Fu.kp, Fu.bind (fun _ _ _ _ _ _ us hl => match us, hl with | [_, _], _ => rfl)⟩
/-! ### minus -/
abbrev s_minus : Stmt := topS 2
theorem sc_minus : FnScope ["one", "other", "times", "its", "mine"] ["one", "other", "times"] (defScope s_minus) := ⟨rfl, rfl, rfl, by decide +kernel, rfl, by decide +kernel, by decide +kernel⟩
noncomputable def F_minus : Ex :=
  (xRet (eLc [4, 3] (lZi (aCons (eVar 0) (aCons (eVar 1) aNil))) (gT 2 (gCons (gN 4) (gCons (gN 3) gNil))) bYes (eOp pSub (eVar 4) (eOp pMul (eVar 2) (eVar 3)))))
noncomputable def g_minus : List D → Option D := runP 5 3 F_minus
theorem b_minus (hN : base.NoSeer) (hgt : P.given.tree = none) (m_zip : mg "zip" = none) {f : Addr} : Body P w K mg base T 41 ["one", "other", "times", "its", "mine"] "minus" s_minus f (fun _ => True) F_minus := fun cdv hcode A outer s H E hr C hT => by
  have nd := sc_minus.nd
  have ax := ax_of (P := P) (w := w) (K := K) (mg := mg) (base := base) (N := ["one", "other", "times", "its", "mine"]) (qual := "minus") (scope := defScope s_minus) (f := f) (cdv := cdv) (A := A) (outer := outer) (s := s) (H := H) (E := E) hr (by decide) hN hgt rfl rfl
  exact (xb_one (xs_ret (ev_lc (own := [("mine", 4), ("its", 3)]) rfl nd (ei_zi (by rfl) m_zip (ea_cons (ev_var (pv 0)) (ea_cons (ev_var (pv 1)) ea_nil))) (blkOk_by (by kernel_rfl)) (by decide) (fun B s H Ca cl fp => (eg_tup rfl (egs_cons (eg_name (i := 4) nd rfl (by first | exact Or.inl rfl | exact Or.inr rfl)) (egs_cons (eg_name (i := 3) nd rfl (by first | exact Or.inl rfl | exact Or.inr rfl)) egs_nil)))) (fun B s H Ca cl fp => ets_nil) (fun B s H Ca cl fp => (ev_op op_sub os_sub (ev_var (pv 4)) (ev_op op_mulA os_mul (ev_var (pv 2)) (ev_var (pv 3))))))))
theorem h_minus (hN : base.NoSeer) (hgt : P.given.tree = none) (m_zip : mg "zip" = none) {f : Addr} {fd : FuncData} (Fu : FunC K "minus" "minus" s_minus f fd (fun _ => True)) (hm : mg "minus" = some (.ref f)) : Has P w K mg base 42 "minus" ["one", "other", "times"] (spP K T 3 g_minus) :=
  ⟨f, fd, fn_P Fu sc_minus (by decide) (b_minus hN hgt m_zip), hm, Fu.kp, Fu.bind (fun _ _ _ _ _ _ us hl => match us, hl with | [_, _, _], _ => rfl)⟩
/-! ### put_least_ahead -/
abbrev s_put_least_ahead : Stmt := topS 3
theorem sc_put_least_ahead : FnScope ["rows", "first", "column", "some", "least", "at"] ["rows", "first", "column"] (defScope s_put_least_ahead) := ⟨rfl, rfl, rfl, by decide +kernel, rfl, by decide +kernel, by decide +kernel⟩
noncomputable def F_put_least_ahead : Ex :=
  (xSeq (xSet 3 (eLc [5] (lRng2 (aCons (eVar 1) (aCons (eCb pLen (aCons (eVar 0) aNil)) aNil))) (gN 5) (bE (eOp pNe (eOp pIx (eOp pIx (eVar 0) (eVar 5)) (eVar 2)) (eC (.int 0)))) (eVar 5)))
    (xSeq (xIf (bE (eOp pEq (eVar 3) (eLst aNil))) (xRet (eC (.bool false))) xNx)
    (xSeq (xSet 4 (eMinK 5 (eVar 3) (eCb pAbs (aCons (eOp pIx (eOp pIx (eVar 0) (eVar 5)) (eVar 2)) aNil))))
    (xSeq (xAsg (gT 2 (gCons (gIx 0 (eVar 1)) (gCons (gIx 0 (eVar 4)) gNil))) (eTup (aCons (eOp pIx (eVar 0) (eVar 4)) (aCons (eOp pIx (eVar 0) (eVar 1)) aNil))))
    (xRet (eC (.bool true)))))))
noncomputable def g_put_least_ahead : D → List D → Option (D × D) := runM 6 3 F_put_least_ahead
theorem b_put_least_ahead (hN : base.NoSeer) (hgt : P.given.tree = none) (m_abs : mg "abs" = none) (m_len : mg "len" = none) (m_min : mg "min" = none) (m_range : mg "range" = none) {c0 P0 : Addr} (TB : LamX.TabB base mg c0 P0) (hmT : (P0, ((("put_least_ahead" : Str) ++ (".<locals>." : Str)) ++ ("<lambda>" : Str))) ∈ T) (hu : ∀ p ∈ T, p.1 = P0 → p.2 = ((("put_least_ahead" : Str) ++ (".<locals>." : Str)) ++ ("<lambda>" : Str))) {f : Addr} : Body P w K mg base T 41 ["rows", "first", "column", "some", "least", "at"] "put_least_ahead" s_put_least_ahead f (fun v => v = .ref c0) F_put_least_ahead := fun cdv hcode A outer s H E hr C hT => by
  have nd := sc_put_least_ahead.nd
  have ax := ax_of (P := P) (w := w) (K := K) (mg := mg) (base := base) (N := ["rows", "first", "column", "some", "least", "at"]) (qual := "put_least_ahead") (scope := defScope s_put_least_ahead) (f := f) (cdv := cdv) (A := A) (outer := outer) (s := s) (H := H) (E := E) hr (by decide) hN hgt rfl rfl
  exact (xb_cons (xs_setLc (i := 3) (own := [("at", 5)]) rfl nd rfl rfl (sw_true rfl rfl rfl rfl) (ei_rng2 (by rfl) m_range (ea_cons (ev_var (pv 1)) (ea_cons (ev_cb cr_lenA cs_len (by rfl) m_len boot_lenX (ea_cons (ev_var (pv 0)) ea_nil)) ea_nil))) (blkOk_by (by kernel_rfl)) (by decide) (fun B s H Ca cl fp => (eg_name (i := 5) nd rfl (by first | exact Or.inl rfl | exact Or.inr rfl))) (fun B s H Ca cl fp => (ets_one (et_cmp (op_neX (Ax.blk ax _ _ _ _ _)) os_ne (ev_ix ix_seq os_ix (ev_ix ix_seq os_ix (ev_var (pv 0)) (ev_var (pv 5))) (ev_var (pv 2))) ev_int))) (fun B s H Ca cl fp => (ev_var (pv 5))))
    (xb_cons (xs_if (et_cmp (op_eqX ax) os_eq (ev_var (pv 3)) (ev_lst ea_nil)) (xb_one (xs_ret ev_bl)) xb_nil)
    (xb_cons (xs_set (i := 4) nd rfl (by first | exact Or.inl rfl | exact Or.inr rfl) (ev_minK (i := 5) (a := "at") (by rfl) m_min TB hcode hT hmT hu hr (lam1_by (by kernel_rfl)) nd rfl (ev_var (pv 3)) (fun s H fa c => (ev_cb call_abs cs_abs (by rfl) m_abs boot_absX (ea_cons (ev_ix ix_seq os_ix (ev_ix ix_seq os_ix (ev_var (pv 0)) (ev_var (pv 5))) (ev_var (pv 2))) ea_nil)))))
    (xb_cons (xs_asg (ev_tup (ea_cons (ev_ix ix_seq os_ix (ev_var (pv 0)) (ev_var (pv 4))) (ea_cons (ev_ix ix_seq os_ix (ev_var (pv 0)) (ev_var (pv 1))) ea_nil))) (eg_tup rfl (egs_cons (eg_ix (pv 0) (ev_var (pv 1))) (egs_cons (eg_ix (pv 0) (ev_var (pv 4))) egs_nil))))
    (xb_one (xs_ret ev_bl))))))
theorem h_put_least_ahead (hN : base.NoSeer) (hgt : P.given.tree = none) (m_abs : mg "abs" = none) (m_len : mg "len" = none) (m_min : mg "min" = none) (m_range : mg "range" = none) {c0 P0 : Addr} (TB : LamX.TabB base mg c0 P0) (hmT : (P0, ((("put_least_ahead" : Str) ++ (".<locals>." : Str)) ++ ("<lambda>" : Str))) ∈ T) (hu : ∀ p ∈ T, p.1 = P0 → p.2 = ((("put_least_ahead" : Str) ++ (".<locals>." : Str)) ++ ("<lambda>" : Str))) {f : Addr} {fd : FuncData} (Fu : FunC K "put_least_ahead" "put_least_ahead" s_put_least_ahead f fd (fun v => v = .ref c0)) (hm : mg "put_least_ahead" = some (.ref f)) : Has P w K mg base 42 "put_least_ahead" ["rows", "first", "column"] (spM K T 3 g_put_least_ahead) :=
  ⟨f, fd, fn_M Fu sc_put_least_ahead (by decide) (b_put_least_ahead hN hgt m_abs m_len m_min m_range TB hmT hu), hm, Fu.kp, Fu.bind (fun _ _ _ _ _ _ us hl => match us, hl with | [_, _, _], _ => rfl)⟩
/-! ### cleared -/
abbrev s_cleared : Stmt := topS 4
theorem sc_cleared : FnScope ["rows", "first", "column", "lead", "at", "member"] ["rows", "first", "column"] (defScope s_cleared) := ⟨rfl, rfl, rfl, by decide +kernel, rfl, by decide +kernel, by decide +kernel⟩
noncomputable def F_cleared : Ex :=
  (xSeq (xWhile (bV (eCallM g_put_least_ahead (aCons (eVar 0) (aCons (eVar 1) (aCons (eVar 2) aNil))))) (xSeq (xIf (bE (eOp pLt (eOp pIx (eOp pIx (eVar 0) (eVar 1)) (eVar 2)) (eC (.int 0)))) (xAsg (gIx 0 (eVar 1)) (eLc [5] (lSeq (eOp pIx (eVar 0) (eVar 1))) (gN 5) bYes (eOp pSub (eC (.int 0)) (eVar 5)))) xNx)
    (xSeq (xSet 3 (eOp pIx (eOp pIx (eVar 0) (eVar 1)) (eVar 2)))
    (xSeq (xFor (lRng2 (aCons (eOp pAdd (eVar 1) (eC (.int 1))) (aCons (eCb pLen (aCons (eVar 0) aNil)) aNil))) (gN 4) (xAsg (gIx 0 (eVar 4)) (eCall g_minus (aCons (eOp pIx (eVar 0) (eVar 4)) (aCons (eOp pIx (eVar 0) (eVar 1)) (aCons (eOp pFdiv (eOp pIx (eOp pIx (eVar 0) (eVar 4)) (eVar 2)) (eVar 3)) aNil))))))
    (xIf (bV (eCb pAll (aCons (eLc [4] (lRng2 (aCons (eOp pAdd (eVar 1) (eC (.int 1))) (aCons (eCb pLen (aCons (eVar 0) aNil)) aNil))) (gN 4) bYes (eOp pEq (eOp pIx (eOp pIx (eVar 0) (eVar 4)) (eVar 2)) (eC (.int 0)))) aNil))) (xRet (eC (.bool true))) xNx)))))
    (xRet (eC (.bool false))))
noncomputable def g_cleared : D → List D → Option (D × D) := runM 6 3 F_cleared
theorem b_cleared (hN : base.NoSeer) (hgt : P.given.tree = none) (m_all : mg "all" = none) (m_len : mg "len" = none) (m_range : mg "range" = none) (h_minus : Has P w K mg base 42 "minus" ["one", "other", "times"] (spP K T 3 g_minus)) (h_put_least_ahead : Has P w K mg base 42 "put_least_ahead" ["rows", "first", "column"] (spM K T 3 g_put_least_ahead)) {f : Addr} : Body P w K mg base T 42 ["rows", "first", "column", "lead", "at", "member"] "cleared" s_cleared f (fun _ => True) F_cleared := fun cdv hcode A outer s H E hr C hT => by
  have nd := sc_cleared.nd
  have ax := ax_of (P := P) (w := w) (K := K) (mg := mg) (base := base) (N := ["rows", "first", "column", "lead", "at", "member"]) (qual := "cleared") (scope := defScope s_cleared) (f := f) (cdv := cdv) (A := A) (outer := outer) (s := s) (H := H) (E := E) hr (by decide) hN hgt rfl rfl
  exact (xb_cons (xs_while PassesOwn.never (et_truth (ev_callMH h_put_least_ahead hT (fun _ _ _ h => runM_len h) (hr.mono (by decide)) (by rfl) (ea_cons (ev_var (pv 0)) (ea_cons (ev_var (pv 1)) (ea_cons (ev_var (pv 2)) ea_nil))))) (xb_cons (xs_if (et_cmp op_lt (os_cmpI _) (ev_ix ix_seq os_ix (ev_ix ix_seq os_ix (ev_var (pv 0)) (ev_var (pv 1))) (ev_var (pv 2))) ev_int) (xb_one (xs_asg (ev_lc (own := [("member", 5)]) rfl nd (ei_seq (ev_ix ix_seq os_ix (ev_var (pv 0)) (ev_var (pv 1)))) (blkOk_by (by kernel_rfl)) (by decide) (fun B s H Ca cl fp => (eg_name (i := 5) nd rfl (by first | exact Or.inl rfl | exact Or.inr rfl))) (fun B s H Ca cl fp => ets_nil) (fun B s H Ca cl fp => (ev_op op_sub os_sub ev_int (ev_var (pv 5))))) (eg_ix (pv 0) (ev_var (pv 1))))) xb_nil)
    (xb_cons (xs_set (i := 3) nd rfl (by first | exact Or.inl rfl | exact Or.inr rfl) (ev_ix ix_seq os_ix (ev_ix ix_seq os_ix (ev_var (pv 0)) (ev_var (pv 1))) (ev_var (pv 2))))
    (xb_cons (xs_for PassesOwn.never rfl (ei_rng2 (by rfl) m_range (ea_cons (ev_op op_addA os_add (ev_var (pv 1)) ev_int) (ea_cons (ev_cb cr_lenA cs_len (by rfl) m_len boot_lenX (ea_cons (ev_var (pv 0)) ea_nil)) ea_nil))) (eg_name (i := 4) nd rfl (by first | exact Or.inl rfl | exact Or.inr rfl)) (xb_one (xs_asg (ev_callH h_minus hT (fun _ _ h => runP_len h) (hr.mono (by decide)) (by rfl) (ea_cons (ev_ix ix_seq os_ix (ev_var (pv 0)) (ev_var (pv 4))) (ea_cons (ev_ix ix_seq os_ix (ev_var (pv 0)) (ev_var (pv 1))) (ea_cons (ev_op (op_fdivP ax) os_fdiv (ev_ix ix_seq os_ix (ev_ix ix_seq os_ix (ev_var (pv 0)) (ev_var (pv 4))) (ev_var (pv 2))) (ev_var (pv 3))) ea_nil)))) (eg_ix (pv 0) (ev_var (pv 4))))))
    (xb_one (xs_if (et_truth (ev_cb (cr_all rfl) cs_all (by rfl) m_all boot_allX (ea_cons (ev_lc (own := [("at", 4)]) rfl nd (ei_rng2 (by rfl) m_range (ea_cons (ev_op op_addA os_add (ev_var (pv 1)) ev_int) (ea_cons (ev_cb cr_lenA cs_len (by rfl) m_len boot_lenX (ea_cons (ev_var (pv 0)) ea_nil)) ea_nil))) (blkOk_by (by kernel_rfl)) (by decide) (fun B s H Ca cl fp => (eg_name (i := 4) nd rfl (by first | exact Or.inl rfl | exact Or.inr rfl))) (fun B s H Ca cl fp => ets_nil) (fun B s H Ca cl fp => (ev_cmp (op_eqX (Ax.blk ax _ _ _ _ _)) os_eq (ev_ix ix_seq os_ix (ev_ix ix_seq os_ix (ev_var (pv 0)) (ev_var (pv 4))) (ev_var (pv 2))) ev_int))) ea_nil))) (xb_one (xs_ret ev_bl)) xb_nil))))))
    (xb_one (xs_ret ev_bl)))
theorem h_cleared (hN : base.NoSeer) (hgt : P.given.tree = none) (m_all : mg "all" = none) (m_len : mg "len" = none) (m_range : mg "range" = none) (h_minus : Has P w K mg base 42 "minus" ["one", "other", "times"] (spP K T 3 g_minus)) (h_put_least_ahead : Has P w K mg base 42 "put_least_ahead" ["rows", "first", "column"] (spM K T 3 g_put_least_ahead)) {f : Addr} {fd : FuncData} (Fu : FunC K "cleared" "cleared" s_cleared f fd (fun _ => True)) (hm : mg "cleared" = some (.ref f)) : Has P w K mg base 43 "cleared" ["rows", "first", "column"] (spM K T 3 g_cleared) :=
  ⟨f, fd, fn_M Fu sc_cleared (by decide) (b_cleared hN hgt m_all m_len m_range h_minus h_put_least_ahead), hm, Fu.kp, Fu.bind (fun _ _ _ _ _ _ us hl => match us, hl with | [_, _, _], _ => rfl)⟩
/-! ### leads_by -/
abbrev s_leads_by : Stmt := topS 5
theorem sc_leads_by : FnScope ["rows", "columns", "found", "column"] ["rows", "columns"] (defScope s_leads_by) := ⟨rfl, rfl, rfl, by decide +kernel, rfl, by decide +kernel, by decide +kernel⟩
noncomputable def F_leads_by : Ex :=
  (xSeq (xSet 2 (eLst aNil))
    (xSeq (xFor (lRng1 (aCons (eVar 1) aNil)) (gN 3) (xIf (bV (eCallM g_cleared (aCons (eVar 0) (aCons (eCb pLen (aCons (eVar 2) aNil)) (aCons (eVar 3) aNil))))) (xEx (eMeth 2 pmAppend (aCons (eVar 3) aNil))) xNx))
    (xRet (eVar 2))))
noncomputable def g_leads_by : D → List D → Option (D × D) := runM 4 2 F_leads_by
theorem b_leads_by (hN : base.NoSeer) (hgt : P.given.tree = none) (m_len : mg "len" = none) (m_range : mg "range" = none) (h_cleared : Has P w K mg base 43 "cleared" ["rows", "first", "column"] (spM K T 3 g_cleared)) {f : Addr} : Body P w K mg base T 43 ["rows", "columns", "found", "column"] "leads_by" s_leads_by f (fun _ => True) F_leads_by := fun cdv hcode A outer s H E hr C hT => by
  have nd := sc_leads_by.nd
  have ax := ax_of (P := P) (w := w) (K := K) (mg := mg) (base := base) (N := ["rows", "columns", "found", "column"]) (qual := "leads_by") (scope := defScope s_leads_by) (f := f) (cdv := cdv) (A := A) (outer := outer) (s := s) (H := H) (E := E) hr (by decide) hN hgt rfl rfl
  exact (xb_cons (xs_set (i := 2) nd rfl (by first | exact Or.inl rfl | exact Or.inr rfl) (ev_lst ea_nil))
    (xb_cons (xs_for PassesOwn.never rfl (ei_rng1 (by rfl) m_range (ea_cons (ev_var (pv 1)) ea_nil)) (eg_name (i := 3) nd rfl (by first | exact Or.inl rfl | exact Or.inr rfl)) (xb_one (xs_if (et_truth (ev_callMH h_cleared hT (fun _ _ _ h => runM_len h) (hr.mono (by decide)) (by rfl) (ea_cons (ev_var (pv 0)) (ea_cons (ev_cb cr_lenA cs_len (by rfl) m_len boot_lenX (ea_cons (ev_var (pv 2)) ea_nil)) (ea_cons (ev_var (pv 3)) ea_nil))))) (xb_one (xs_expr (ev_append (pv 2) (ea_cons (ev_var (pv 3)) ea_nil)))) xb_nil)))
    (xb_one (xs_ret (ev_var (pv 2))))))
theorem h_leads_by (hN : base.NoSeer) (hgt : P.given.tree = none) (m_len : mg "len" = none) (m_range : mg "range" = none) (h_cleared : Has P w K mg base 43 "cleared" ["rows", "first", "column"] (spM K T 3 g_cleared)) {f : Addr} {fd : FuncData} (Fu : FunC K "leads_by" "leads_by" s_leads_by f fd (fun _ => True)) (hm : mg "leads_by" = some (.ref f)) : Has P w K mg base 44 "leads_by" ["rows", "columns"] (spM K T 2 g_leads_by) :=
  ⟨f, fd, fn_M Fu sc_leads_by (by decide) (b_leads_by hN hgt m_len m_range h_cleared), hm, Fu.kp, Fu.bind (fun _ _ _ _ _ _ us hl => match us, hl with | [_, _], _ => rfl)⟩
/-! ### plain_form -/
abbrev s_plain_form : Stmt := topS 6
theorem sc_plain_form : FnScope ["rows", "columns", "some", "leads", "at", "column", "above", "row"] ["rows", "columns"] (defScope s_plain_form) := ⟨rfl, rfl, rfl, by decide +kernel, rfl, by decide +kernel, by decide +kernel⟩
noncomputable def F_plain_form : Ex :=
  (xSeq (xSet 2 (eLc [7] (lSeq (eVar 0)) (gN 7) bYes (eCb pList (aCons (eVar 7) aNil))))
    (xSeq (xSet 3 (eCallM g_leads_by (aCons (eVar 2) (aCons (eVar 1) aNil))))
    (xSeq (xFor (lEn (aCons (eVar 3) aNil)) (gT 2 (gCons (gN 4) (gCons (gN 5) gNil))) (xFor (lRng1 (aCons (eVar 4) aNil)) (gN 6) (xAsg (gIx 2 (eVar 6)) (eCall g_minus (aCons (eOp pIx (eVar 2) (eVar 6)) (aCons (eOp pIx (eVar 2) (eVar 4)) (aCons (eOp pFdiv (eOp pIx (eOp pIx (eVar 2) (eVar 6)) (eVar 5)) (eOp pIx (eOp pIx (eVar 2) (eVar 4)) (eVar 5))) aNil)))))))
    (xRet (eCb pTuple (aCons (eLc [7] (lSeq (eSl (eVar 2) oNone (oSome (eCb pLen (aCons (eVar 3) aNil))))) (gN 7) bYes (eCb pTuple (aCons (eVar 7) aNil))) aNil))))))
noncomputable def g_plain_form : List D → Option D := runP 8 2 F_plain_form
theorem b_plain_form (hN : base.NoSeer) (hgt : P.given.tree = none) (m_enumerate : mg "enumerate" = none) (m_len : mg "len" = none) (m_list : mg "list" = none) (m_range : mg "range" = none) (m_tuple : mg "tuple" = none) (h_leads_by : Has P w K mg base 44 "leads_by" ["rows", "columns"] (spM K T 2 g_leads_by)) (h_minus : Has P w K mg base 42 "minus" ["one", "other", "times"] (spP K T 3 g_minus)) {f : Addr} : Body P w K mg base T 44 ["rows", "columns", "some", "leads", "at", "column", "above", "row"] "plain_form" s_plain_form f (fun _ => True) F_plain_form := fun cdv hcode A outer s H E hr C hT => by
  have nd := sc_plain_form.nd
  have ax := ax_of (P := P) (w := w) (K := K) (mg := mg) (base := base) (N := ["rows", "columns", "some", "leads", "at", "column", "above", "row"]) (qual := "plain_form") (scope := defScope s_plain_form) (f := f) (cdv := cdv) (A := A) (outer := outer) (s := s) (H := H) (E := E) hr (by decide) hN hgt rfl rfl
  exact (xb_cons (xs_setLc (i := 2) (own := [("row", 7)]) rfl nd rfl rfl (sw_true rfl rfl rfl rfl) (ei_seq (ev_var (pv 0))) (blkOk_by (by kernel_rfl)) (by decide) (fun B s H Ca cl fp => (eg_name (i := 7) nd rfl (by first | exact Or.inl rfl | exact Or.inr rfl))) (fun B s H Ca cl fp => ets_nil) (fun B s H Ca cl fp => (ev_ct call_list_of cs_list (by rfl) m_list boot_listX (ea_cons (ev_var (pv 7)) ea_nil))))
    (xb_cons (xs_set (i := 3) nd rfl (by first | exact Or.inl rfl | exact Or.inr rfl) (ev_callMH h_leads_by hT (fun _ _ _ h => runM_len h) (hr.mono (by decide)) (by rfl) (ea_cons (ev_var (pv 2)) (ea_cons (ev_var (pv 1)) ea_nil))))
    (xb_cons (xs_for PassesOwn.never rfl (ei_en (by rfl) m_enumerate (ea_cons (ev_var (pv 3)) ea_nil)) (eg_tup rfl (egs_cons (eg_name (i := 4) nd rfl (by first | exact Or.inl rfl | exact Or.inr rfl)) (egs_cons (eg_name (i := 5) nd rfl (by first | exact Or.inl rfl | exact Or.inr rfl)) egs_nil))) (xb_one (xs_for PassesOwn.never rfl (ei_rng1 (by rfl) m_range (ea_cons (ev_var (pv 4)) ea_nil)) (eg_name (i := 6) nd rfl (by first | exact Or.inl rfl | exact Or.inr rfl)) (xb_one (xs_asg (ev_callH h_minus hT (fun _ _ h => runP_len h) (hr.mono (by decide)) (by rfl) (ea_cons (ev_ix ix_seq os_ix (ev_var (pv 2)) (ev_var (pv 6))) (ea_cons (ev_ix ix_seq os_ix (ev_var (pv 2)) (ev_var (pv 4))) (ea_cons (ev_op (op_fdivP ax) os_fdiv (ev_ix ix_seq os_ix (ev_ix ix_seq os_ix (ev_var (pv 2)) (ev_var (pv 6))) (ev_var (pv 5))) (ev_ix ix_seq os_ix (ev_ix ix_seq os_ix (ev_var (pv 2)) (ev_var (pv 4))) (ev_var (pv 5)))) ea_nil)))) (eg_ix (pv 2) (ev_var (pv 6))))))))
    (xb_one (xs_ret (ev_ct call_tuple_of cs_tuple (by rfl) m_tuple boot_tupleX (ea_cons (ev_lc (own := [("row", 7)]) rfl nd (ei_seq (ev_sl (ev_var (pv 2)) eo_none (eo_some (ev_cb cr_lenA cs_len (by rfl) m_len boot_lenX (ea_cons (ev_var (pv 3)) ea_nil))))) (blkOk_by (by kernel_rfl)) (by decide) (fun B s H Ca cl fp => (eg_name (i := 7) nd rfl (by first | exact Or.inl rfl | exact Or.inr rfl))) (fun B s H Ca cl fp => ets_nil) (fun B s H Ca cl fp => (ev_ct call_tuple_of cs_tuple (by rfl) m_tuple boot_tupleX (ea_cons (ev_var (pv 7)) ea_nil)))) ea_nil)))))))
theorem h_plain_form (hN : base.NoSeer) (hgt : P.given.tree = none) (m_enumerate : mg "enumerate" = none) (m_len : mg "len" = none) (m_list : mg "list" = none) (m_range : mg "range" = none) (m_tuple : mg "tuple" = none) (h_leads_by : Has P w K mg base 44 "leads_by" ["rows", "columns"] (spM K T 2 g_leads_by)) (h_minus : Has P w K mg base 42 "minus" ["one", "other", "times"] (spP K T 3 g_minus)) {f : Addr} {fd : FuncData} (Fu : FunC K "plain_form" "plain_form" s_plain_form f fd (fun _ => True)) (hm : mg "plain_form" = some (.ref f)) : Has P w K mg base 45 "plain_form" ["rows", "columns"] (spP K T 2 g_plain_form) :=
  ⟨f, fd, fn_P Fu sc_plain_form (by decide) (b_plain_form hN hgt m_enumerate m_len m_list m_range m_tuple h_leads_by h_minus), hm, Fu.kp, Fu.bind (fun _ _ _ _ _ _ us hl => match us, hl with | [_, _], _ => rfl)⟩
/-! ### unit -/
abbrev s_unit : Stmt := topS 7
theorem sc_unit : FnScope ["many", "at", "place"] ["many", "at"] (defScope s_unit) := ⟨rfl, rfl, rfl, by decide +kernel, rfl, by decide +kernel, by decide +kernel⟩
noncomputable def F_unit : Ex :=
  (xRet (eLc [2] (lRng1 (aCons (eVar 0) aNil)) (gN 2) bYes (eCb pInt (aCons (eOp pEq (eVar 2) (eVar 1)) aNil))))
noncomputable def g_unit : List D → Option D := runP 3 2 F_unit
theorem b_unit (hN : base.NoSeer) (hgt : P.given.tree = none) (m_int : mg "int" = none) (m_range : mg "range" = none) {f : Addr} : Body P w K mg base T 41 ["many", "at", "place"] "unit" s_unit f (fun _ => True) F_unit := fun cdv hcode A outer s H E hr C hT => by
  have nd := sc_unit.nd
  have ax := ax_of (P := P) (w := w) (K := K) (mg := mg) (base := base) (N := ["many", "at", "place"]) (qual := "unit") (scope := defScope s_unit) (f := f) (cdv := cdv) (A := A) (outer := outer) (s := s) (H := H) (E := E) hr (by decide) hN hgt rfl rfl
  exact (xb_one (xs_ret (ev_lc (own := [("place", 2)]) rfl nd (ei_rng1 (by rfl) m_range (ea_cons (ev_var (pv 0)) ea_nil)) (blkOk_by (by kernel_rfl)) (by decide) (fun B s H Ca cl fp => (eg_name (i := 2) nd rfl (by first | exact Or.inl rfl | exact Or.inr rfl))) (fun B s H Ca cl fp => ets_nil) (fun B s H Ca cl fp => (ev_ct call_int1 cs_int (by rfl) m_int boot_intX (ea_cons (ev_cmp (op_eqX (Ax.blk ax _ _ _ _ _)) os_eq (ev_var (pv 2)) (ev_var (pv 1))) ea_nil))))))
theorem h_unit (hN : base.NoSeer) (hgt : P.given.tree = none) (m_int : mg "int" = none) (m_range : mg "range" = none) {f : Addr} {fd : FuncData} (Fu : FunC K "unit" "unit" s_unit f fd (fun _ => True)) (hm : mg "unit" = some (.ref f)) : Has P w K mg base 42 "unit" ["many", "at"] (spP K T 2 g_unit) :=
  ⟨f, fd, fn_P Fu sc_unit (by decide) (b_unit hN hgt m_int m_range), hm, Fu.kp, Fu.bind (fun _ _ _ _ _ _ us hl => match us, hl with | [_, _], _ => rfl)⟩
/-! ### still_rows -/
abbrev s_still_rows : Stmt := topS 8
theorem sc_still_rows : FnScope ["rows", "many", "columns", "some", "leads", "at", "row"] ["rows", "many"] (defScope s_still_rows) := ⟨rfl, rfl, rfl, by decide +kernel, rfl, by decide +kernel, by decide +kernel⟩
noncomputable def F_still_rows : Ex :=
  (xSeq (xSet 2 (eCb pLen (aCons (eVar 0) aNil)))
    (xSeq (xSet 3 (eLc [5] (lRng1 (aCons (eVar 1) aNil)) (gN 5) bYes (eOp pAdd (eLc [6] (lSeq (eVar 0)) (gN 6) bYes (eOp pIx (eVar 6) (eVar 5))) (eCall g_unit (aCons (eVar 1) (aCons (eVar 5) aNil))))))
    (xSeq (xSet 4 (eCallM g_leads_by (aCons (eVar 3) (aCons (eVar 2) aNil))))
    (xRet (eCall g_plain_form (aCons (eLc [6] (lSeq (eSl (eVar 3) (oSome (eCb pLen (aCons (eVar 4) aNil))) oNone)) (gN 6) bYes (eSl (eVar 6) (oSome (eVar 2)) oNone)) (aCons (eVar 1) aNil)))))))
noncomputable def g_still_rows : List D → Option D := runP 7 2 F_still_rows
theorem b_still_rows (hN : base.NoSeer) (hgt : P.given.tree = none) (m_len : mg "len" = none) (m_range : mg "range" = none) (h_leads_by : Has P w K mg base 44 "leads_by" ["rows", "columns"] (spM K T 2 g_leads_by)) (h_plain_form : Has P w K mg base 45 "plain_form" ["rows", "columns"] (spP K T 2 g_plain_form)) (h_unit : Has P w K mg base 42 "unit" ["many", "at"] (spP K T 2 g_unit)) {f : Addr} : Body P w K mg base T 45 ["rows", "many", "columns", "some", "leads", "at", "row"] "still_rows" s_still_rows f (fun _ => True) F_still_rows := fun cdv hcode A outer s H E hr C hT => by
  have nd := sc_still_rows.nd
  have ax := ax_of (P := P) (w := w) (K := K) (mg := mg) (base := base) (N := ["rows", "many", "columns", "some", "leads", "at", "row"]) (qual := "still_rows") (scope := defScope s_still_rows) (f := f) (cdv := cdv) (A := A) (outer := outer) (s := s) (H := H) (E := E) hr (by decide) hN hgt rfl rfl
  exact (xb_cons (xs_set (i := 2) nd rfl (by first | exact Or.inl rfl | exact Or.inr rfl) (ev_cb cr_lenA cs_len (by rfl) m_len boot_lenX (ea_cons (ev_var (pv 0)) ea_nil)))
    (xb_cons (xs_setLc (i := 3) (own := [("at", 5)]) rfl nd rfl rfl (sw_true rfl rfl rfl rfl) (ei_rng1 (by rfl) m_range (ea_cons (ev_var (pv 1)) ea_nil)) (blkOk_by (by kernel_rfl)) (by decide) (fun B s H Ca cl fp => (eg_name (i := 5) nd rfl (by first | exact Or.inl rfl | exact Or.inr rfl))) (fun B s H Ca cl fp => ets_nil) (fun B s H Ca cl fp => (ev_op op_addA os_add (ev_lc (own := [("row", 6)]) rfl nd (ei_seq (ev_var (pv 0))) (blkOk_by (by kernel_rfl)) (by decide) (fun B s H Ca cl fp => (eg_name (i := 6) nd rfl (by first | exact Or.inl rfl | exact Or.inr rfl))) (fun B s H Ca cl fp => ets_nil) (fun B s H Ca cl fp => (ev_ix ix_seq os_ix (ev_var (pv 6)) (ev_var (pv 5))))) (ev_callH h_unit hT (fun _ _ h => runP_len h) (hr.mono (by decide)) (by rfl) (ea_cons (ev_var (pv 1)) (ea_cons (ev_var (pv 5)) ea_nil))))))
    (xb_cons (xs_set (i := 4) nd rfl (by first | exact Or.inl rfl | exact Or.inr rfl) (ev_callMH h_leads_by hT (fun _ _ _ h => runM_len h) (hr.mono (by decide)) (by rfl) (ea_cons (ev_var (pv 3)) (ea_cons (ev_var (pv 2)) ea_nil))))
    (xb_one (xs_ret (ev_callH h_plain_form hT (fun _ _ h => runP_len h) (hr.mono (by decide)) (by rfl) (ea_cons (ev_lc (own := [("row", 6)]) rfl nd (ei_seq (ev_sl (ev_var (pv 3)) (eo_some (ev_cb cr_lenA cs_len (by rfl) m_len boot_lenX (ea_cons (ev_var (pv 4)) ea_nil))) eo_none)) (blkOk_by (by kernel_rfl)) (by decide) (fun B s H Ca cl fp => (eg_name (i := 6) nd rfl (by first | exact Or.inl rfl | exact Or.inr rfl))) (fun B s H Ca cl fp => ets_nil) (fun B s H Ca cl fp => (ev_sl (ev_var (pv 6)) (eo_some (ev_var (pv 2))) eo_none))) (ea_cons (ev_var (pv 1)) ea_nil))))))))
theorem h_still_rows (hN : base.NoSeer) (hgt : P.given.tree = none) (m_len : mg "len" = none) (m_range : mg "range" = none) (h_leads_by : Has P w K mg base 44 "leads_by" ["rows", "columns"] (spM K T 2 g_leads_by)) (h_plain_form : Has P w K mg base 45 "plain_form" ["rows", "columns"] (spP K T 2 g_plain_form)) (h_unit : Has P w K mg base 42 "unit" ["many", "at"] (spP K T 2 g_unit)) {f : Addr} {fd : FuncData} (Fu : FunC K "still_rows" "still_rows" s_still_rows f fd (fun _ => True)) (hm : mg "still_rows" = some (.ref f)) : Has P w K mg base 46 "still_rows" ["rows", "many"] (spP K T 2 g_still_rows) :=
  ⟨f, fd, fn_P Fu sc_still_rows (by decide) (b_still_rows hN hgt m_len m_range h_leads_by h_plain_form h_unit), hm, Fu.kp, Fu.bind (fun _ _ _ _ _ _ us hl => match us, hl with | [_, _], _ => rfl)⟩
/-! ### rank -/
abbrev s_rank : Stmt := topS 9
theorem sc_rank : FnScope ["rows", "columns"] ["rows", "columns"] (defScope s_rank) := ⟨rfl, rfl, rfl, by decide +kernel, rfl, by decide +kernel, by decide +kernel⟩
noncomputable def F_rank : Ex :=
  (xRet (eCb pLen (aCons (eCall g_plain_form (aCons (eVar 0) (aCons (eVar 1) aNil))) aNil)))
noncomputable def g_rank : List D → Option D := runP 2 2 F_rank
theorem b_rank (hN : base.NoSeer) (hgt : P.given.tree = none) (m_len : mg "len" = none) (h_plain_form : Has P w K mg base 45 "plain_form" ["rows", "columns"] (spP K T 2 g_plain_form)) {f : Addr} : Body P w K mg base T 45 ["rows", "columns"] "rank" s_rank f (fun _ => True) F_rank := fun cdv hcode A outer s H E hr C hT => by
  have nd := sc_rank.nd
  have ax := ax_of (P := P) (w := w) (K := K) (mg := mg) (base := base) (N := ["rows", "columns"]) (qual := "rank") (scope := defScope s_rank) (f := f) (cdv := cdv) (A := A) (outer := outer) (s := s) (H := H) (E := E) hr (by decide) hN hgt rfl rfl
  exact (xb_one (xs_ret (ev_cb cr_lenA cs_len (by rfl) m_len boot_lenX (ea_cons (ev_callH h_plain_form hT (fun _ _ h => runP_len h) (hr.mono (by decide)) (by rfl) (ea_cons (ev_var (pv 0)) (ea_cons (ev_var (pv 1)) ea_nil))) ea_nil))))
theorem h_rank (hN : base.NoSeer) (hgt : P.given.tree = none) (m_len : mg "len" = none) (h_plain_form : Has P w K mg base 45 "plain_form" ["rows", "columns"] (spP K T 2 g_plain_form)) {f : Addr} {fd : FuncData} (Fu : FunC K "rank" "rank" s_rank f fd (fun _ => True)) (hm : mg "rank" = some (.ref f)) : Has P w K mg base 46 "rank" ["rows", "columns"] (spP K T 2 g_rank) :=
  ⟨f, fd, fn_P Fu sc_rank (by decide) (b_rank hN hgt m_len h_plain_form), hm, Fu.kp, Fu.bind (fun _ _ _ _ _ _ us hl => match us, hl with | [_, _], _ => rfl)⟩
/-! ### is_made_of -/
abbrev s_is_made_of : Stmt := topS 10
theorem sc_is_made_of : FnScope ["rows", "columns", "row"] ["rows", "columns", "row"] (defScope s_is_made_of) := ⟨rfl, rfl, rfl, by decide +kernel, rfl, by decide +kernel, by decide +kernel⟩
noncomputable def F_is_made_of : Ex :=
  (xRet (eOp pEq (eCall g_plain_form (aCons (eVar 0) (aCons (eVar 1) aNil))) (eCall g_plain_form (aCons (eLst (aStar (eVar 0) (aCons (eVar 2) aNil))) (aCons (eVar 1) aNil)))))
noncomputable def g_is_made_of : List D → Option D := runP 3 3 F_is_made_of
theorem b_is_made_of (hN : base.NoSeer) (hgt : P.given.tree = none) (h_plain_form : Has P w K mg base 45 "plain_form" ["rows", "columns"] (spP K T 2 g_plain_form)) {f : Addr} : Body P w K mg base T 45 ["rows", "columns", "row"] "is_made_of" s_is_made_of f (fun _ => True) F_is_made_of := fun cdv hcode A outer s H E hr C hT => by
  have nd := sc_is_made_of.nd
  have ax := ax_of (P := P) (w := w) (K := K) (mg := mg) (base := base) (N := ["rows", "columns", "row"]) (qual := "is_made_of") (scope := defScope s_is_made_of) (f := f) (cdv := cdv) (A := A) (outer := outer) (s := s) (H := H) (E := E) hr (by decide) hN hgt rfl rfl
  exact (xb_one (xs_ret (ev_cmp (op_eqX ax) os_eq (ev_callH h_plain_form hT (fun _ _ h => runP_len h) (hr.mono (by decide)) (by rfl) (ea_cons (ev_var (pv 0)) (ea_cons (ev_var (pv 1)) ea_nil))) (ev_callH h_plain_form hT (fun _ _ h => runP_len h) (hr.mono (by decide)) (by rfl) (ea_cons (ev_lst (ea_star (ev_var (pv 0)) (ea_cons (ev_var (pv 2)) ea_nil))) (ea_cons (ev_var (pv 1)) ea_nil))))))
theorem h_is_made_of (hN : base.NoSeer) (hgt : P.given.tree = none) (h_plain_form : Has P w K mg base 45 "plain_form" ["rows", "columns"] (spP K T 2 g_plain_form)) {f : Addr} {fd : FuncData} (Fu : FunC K "is_made_of" "is_made_of" s_is_made_of f fd (fun _ => True)) (hm : mg "is_made_of" = some (.ref f)) : Has P w K mg base 46 "is_made_of" ["rows", "columns", "row"] (spP K T 3 g_is_made_of) :=
  ⟨f, fd, fn_P Fu sc_is_made_of (by decide) (b_is_made_of hN hgt h_plain_form), hm, Fu.kp, Fu.bind (fun _ _ _ _ _ _ us hl => match us, hl with | [_, _, _], _ => rfl)⟩
/-! ### _law_bag -/
abbrev s__law_bag : Stmt := topS 12
theorem sc__law_bag : FnScope ["script", "cell"] ["script"] (defScope s__law_bag) := ⟨rfl, rfl, rfl, by decide +kernel, rfl, by decide +kernel, by decide +kernel⟩
noncomputable def F__law_bag : Ev :=
  (eLst (aCons (eC (.int 0)) (aCons (eC (.int 1234567891)) (aCons (eC (.int 0)) (aCons (eLc [1] (lSeq (eScr 0 (oSome (eC (.int 63))))) (gN 1) bYes (eCb pAbs (aCons (eVar 1) aNil))) aNil)))))
noncomputable def g__law_bag : List Int → Option D := runF 2 F__law_bag
theorem b__law_bag (hN : base.NoSeer) (hgt : P.given.tree = none) (m_abs : mg "abs" = none) {f : Addr} : BodyF P w K mg base T 41 ["script", "cell"] "_law_bag" s__law_bag f (fun _ => True) F__law_bag := fun cdv hcode A outer s H E hr C hT => by
  have nd := sc__law_bag.nd
  have ax := ax_of (P := P) (w := w) (K := K) (mg := mg) (base := base) (N := ["script", "cell"]) (qual := "_law_bag") (scope := defScope s__law_bag) (f := f) (cdv := cdv) (A := A) (outer := outer) (s := s) (H := H) (E := E) hr (by decide) hN hgt rfl rfl
  exact (xf_ret (ev_lst (ea_cons ev_int (ea_cons ev_int (ea_cons ev_int (ea_cons (ev_lc (own := [("cell", 1)]) rfl nd (ei_seq (ev_scr (pv 0) (eo_some ev_int))) (blkOk_by (by kernel_rfl)) (by decide) (fun B s H Ca cl fp => (eg_name (i := 1) nd rfl (by first | exact Or.inl rfl | exact Or.inr rfl))) (fun B s H Ca cl fp => ets_nil) (fun B s H Ca cl fp => (ev_cb call_abs cs_abs (by rfl) m_abs boot_absX (ea_cons (ev_var (pv 1)) ea_nil)))) ea_nil))))))
theorem h__law_bag (hN : base.NoSeer) (hgt : P.given.tree = none) (m_abs : mg "abs" = none) {f : Addr} {fd : FuncData} (Fu : FunC K "_law_bag" "_law_bag" s__law_bag f fd (fun _ => True)) (hm : mg "_law_bag" = some (.ref f)) : Has P w K mg base 42 "_law_bag" ["script"] (spF K T g__law_bag) :=
  ⟨f, fd, fn_F Fu sc__law_bag (by decide) (b__law_bag hN hgt m_abs), hm, Fu.kp, Fu.bind (fun _ _ _ _ _ _ us hl => match us, hl with | [_], _ => rfl)⟩
/-! ### _law_take -/
abbrev s__law_take : Stmt := topS 13
theorem sc__law_take : FnScope ["bag", "many", "cell", "stirred", "value", "begin", "second"] ["bag", "many"] (defScope s__law_take) := ⟨rfl, rfl, rfl, by decide +kernel, rfl, by decide +kernel, by decide +kernel⟩
noncomputable def F__law_take : Ex :=
  (xSeq (xIf (bE (eOp pEq (eOp pIx (eVar 0) (eC (.int 0))) (eC (.int 0)))) (xSeq (xSet 2 (eOp pIx (eOp pAdd (eSl (eOp pIx (eVar 0) (eC (.int 3))) (oSome (eOp pIx (eVar 0) (eC (.int 2)))) oNone) (eLst (aCons (eC (.int 0)) aNil))) (eC (.int 0))))
    (xSeq (xAugIx 0 (eC (.int 2)) (fun i j => i + j) (eC (.int 1)))
    (xSeq (xIf (bE (eOp pGe (eVar 2) (eOp pPow (eC (.int 10)) (eC (.int 18))))) (xAsg (gIx 0 (eC (.int 0))) (eVar 2)) xNx)
    (xSeq (xSet 3 (eOp pAdd (eOp pAdd (eOp pMul (eOp pIx (eVar 0) (eC (.int 1))) (eC (.int 48271))) (eOp pMod (eCb pInt (aCons (eVar 2) aNil)) (eC (.int 2147483647)))) (eOp pMul (eC (.int 7919)) (eOp pIx (eVar 0) (eC (.int 2))))))
    (xAsg (gIx 0 (eC (.int 1))) (eOp pMod (eCb pInt (aCons (eVar 3) aNil)) (eC (.int 2147483647)))))))) xNx)
    (xSeq (xIf (bE (eOp pGt (eOp pIx (eVar 0) (eC (.int 0))) (eC (.int 0)))) (xSeq (xSet 4 (eOp pMod (eCb pInt (aCons (eOp pIx (eVar 0) (eC (.int 0))) aNil)) (eVar 1)))
    (xSeq (xAsg (gIx 0 (eC (.int 0))) (eOp pFdiv (eCb pInt (aCons (eOp pIx (eVar 0) (eC (.int 0))) aNil)) (eVar 1)))
    (xRet (eVar 4)))) xNx)
    (xSeq (xSet 5 (eOp pMod (eCb pInt (aCons (eOp pMul (eOp pAdd (eOp pIx (eVar 0) (eC (.int 1))) (eC (.int 1))) (eC (.int 39373))) aNil)) (eC (.int 1000000007))))
    (xSeq (xSet 6 (eOp pMod (eCb pInt (aCons (eOp pMul (eOp pMod (eCb pInt (aCons (eOp pMul (eVar 5) (eVar 5)) aNil)) (eC (.int 998244353))) (eC (.int 30011))) aNil)) (eC (.int 998244353))))
    (xRet (eOp pMod (eCb pInt (aCons (eOp pFdiv (eVar 6) (eC (.int 7))) aNil)) (eVar 1)))))))
noncomputable def g__law_take : D → List D → Option (D × D) := runM 7 2 F__law_take
theorem b__law_take (hN : base.NoSeer) (hgt : P.given.tree = none) (m_int : mg "int" = none) {f : Addr} : Body P w K mg base T 41 ["bag", "many", "cell", "stirred", "value", "begin", "second"] "_law_take" s__law_take f (fun _ => True) F__law_take := fun cdv hcode A outer s H E hr C hT => by
  have nd := sc__law_take.nd
  have ax := ax_of (P := P) (w := w) (K := K) (mg := mg) (base := base) (N := ["bag", "many", "cell", "stirred", "value", "begin", "second"]) (qual := "_law_take") (scope := defScope s__law_take) (f := f) (cdv := cdv) (A := A) (outer := outer) (s := s) (H := H) (E := E) hr (by decide) hN hgt rfl rfl
  exact (xb_cons (xs_if (et_cmp (op_eqX ax) os_eq (ev_ix ix_seq os_ix (ev_var (pv 0)) ev_int) ev_int) (xb_cons (xs_set (i := 2) nd rfl (by first | exact Or.inl rfl | exact Or.inr rfl) (ev_ix ix_seq os_ix (ev_op op_addA os_add (ev_sl (ev_ix ix_seq os_ix (ev_var (pv 0)) ev_int) (eo_some (ev_ix ix_seq os_ix (ev_var (pv 0)) ev_int)) eo_none) (ev_lst (ea_cons ev_int ea_nil))) ev_int))
    (xb_cons (xs_augIx (pv 0) ev_int ev_int ip_add)
    (xb_cons (xs_if (et_cmp op_ge (os_cmpI _) (ev_var (pv 2)) (ev_op op_pow os_pow ev_int ev_int)) (xb_one (xs_asg (ev_var (pv 2)) (eg_ix (pv 0) ev_int))) xb_nil)
    (xb_cons (xs_set (i := 3) nd rfl (by first | exact Or.inl rfl | exact Or.inr rfl) (ev_op op_addA os_add (ev_op op_addA os_add (ev_op op_mulA os_mul (ev_ix ix_seq os_ix (ev_var (pv 0)) ev_int) ev_int) (ev_op op_mod os_mod (ev_ct call_int1 cs_int (by rfl) m_int boot_intX (ea_cons (ev_var (pv 2)) ea_nil)) ev_int)) (ev_op op_mulA os_mul ev_int (ev_ix ix_seq os_ix (ev_var (pv 0)) ev_int))))
    (xb_one (xs_asg (ev_op op_mod os_mod (ev_ct call_int1 cs_int (by rfl) m_int boot_intX (ea_cons (ev_var (pv 3)) ea_nil)) ev_int) (eg_ix (pv 0) ev_int))))))) xb_nil)
    (xb_cons (xs_if (et_cmp op_gt (os_cmpI _) (ev_ix ix_seq os_ix (ev_var (pv 0)) ev_int) ev_int) (xb_cons (xs_set (i := 4) nd rfl (by first | exact Or.inl rfl | exact Or.inr rfl) (ev_op op_mod os_mod (ev_ct call_int1 cs_int (by rfl) m_int boot_intX (ea_cons (ev_ix ix_seq os_ix (ev_var (pv 0)) ev_int) ea_nil)) (ev_var (pv 1))))
    (xb_cons (xs_asg (ev_op (op_fdivP ax) os_fdiv (ev_ct call_int1 cs_int (by rfl) m_int boot_intX (ea_cons (ev_ix ix_seq os_ix (ev_var (pv 0)) ev_int) ea_nil)) (ev_var (pv 1))) (eg_ix (pv 0) ev_int))
    (xb_one (xs_ret (ev_var (pv 4)))))) xb_nil)
    (xb_cons (xs_set (i := 5) nd rfl (by first | exact Or.inl rfl | exact Or.inr rfl) (ev_op op_mod os_mod (ev_ct call_int1 cs_int (by rfl) m_int boot_intX (ea_cons (ev_op op_mulA os_mul (ev_op op_addA os_add (ev_ix ix_seq os_ix (ev_var (pv 0)) ev_int) ev_int) ev_int) ea_nil)) ev_int))
    (xb_cons (xs_set (i := 6) nd rfl (by first | exact Or.inl rfl | exact Or.inr rfl) (ev_op op_mod os_mod (ev_ct call_int1 cs_int (by rfl) m_int boot_intX (ea_cons (ev_op op_mulA os_mul (ev_op op_mod os_mod (ev_ct call_int1 cs_int (by rfl) m_int boot_intX (ea_cons (ev_op op_mulA os_mul (ev_var (pv 5)) (ev_var (pv 5))) ea_nil)) ev_int) ev_int) ea_nil)) ev_int))
    (xb_one (xs_ret (ev_op op_mod os_mod (ev_ct call_int1 cs_int (by rfl) m_int boot_intX (ea_cons (ev_op (op_fdivP ax) os_fdiv (ev_var (pv 6)) ev_int) ea_nil)) (ev_var (pv 1)))))))))
theorem h__law_take (hN : base.NoSeer) (hgt : P.given.tree = none) (m_int : mg "int" = none) {f : Addr} {fd : FuncData} (Fu : FunC K "_law_take" "_law_take" s__law_take f fd (fun _ => True)) (hm : mg "_law_take" = some (.ref f)) : Has P w K mg base 42 "_law_take" ["bag", "many"] (spM K T 2 g__law_take) :=
  ⟨f, fd, fn_M Fu sc__law_take (by decide) (b__law_take hN hgt m_int), hm, Fu.kp, Fu.bind (fun _ _ _ _ _ _ us hl => match us, hl with | [_, _], _ => rfl)⟩
/-! ### _law_some -/
abbrev s__law_some : Stmt := topS 14
theorem sc__law_some : FnScope ["bag", "things"] ["bag", "things"] (defScope s__law_some) := ⟨rfl, rfl, rfl, by decide +kernel, rfl, by decide +kernel, by decide +kernel⟩
noncomputable def F__law_some : Ex :=
  (xRet (eOp pIx (eVar 1) (eCallM g__law_take (aCons (eVar 0) (aCons (eCb pLen (aCons (eVar 1) aNil)) aNil)))))
noncomputable def g__law_some : D → List D → Option (D × D) := runM 2 2 F__law_some
theorem b__law_some (hN : base.NoSeer) (hgt : P.given.tree = none) (m_len : mg "len" = none) (h__law_take : Has P w K mg base 42 "_law_take" ["bag", "many"] (spM K T 2 g__law_take)) {f : Addr} : Body P w K mg base T 42 ["bag", "things"] "_law_some" s__law_some f (fun _ => True) F__law_some := fun cdv hcode A outer s H E hr C hT => by
  have nd := sc__law_some.nd
  have ax := ax_of (P := P) (w := w) (K := K) (mg := mg) (base := base) (N := ["bag", "things"]) (qual := "_law_some") (scope := defScope s__law_some) (f := f) (cdv := cdv) (A := A) (outer := outer) (s := s) (H := H) (E := E) hr (by decide) hN hgt rfl rfl
  exact (xb_one (xs_ret (ev_ix ix_seq os_ix (ev_var (pv 1)) (ev_callMH h__law_take hT (fun _ _ _ h => runM_len h) (hr.mono (by decide)) (by rfl) (ea_cons (ev_var (pv 0)) (ea_cons (ev_cb cr_lenA cs_len (by rfl) m_len boot_lenX (ea_cons (ev_var (pv 1)) ea_nil)) ea_nil))))))
theorem h__law_some (hN : base.NoSeer) (hgt : P.given.tree = none) (m_len : mg "len" = none) (h__law_take : Has P w K mg base 42 "_law_take" ["bag", "many"] (spM K T 2 g__law_take)) {f : Addr} {fd : FuncData} (Fu : FunC K "_law_some" "_law_some" s__law_some f fd (fun _ => True)) (hm : mg "_law_some" = some (.ref f)) : Has P w K mg base 43 "_law_some" ["bag", "things"] (spM K T 2 g__law_some) :=
  ⟨f, fd, fn_M Fu sc__law_some (by decide) (b__law_some hN hgt m_len h__law_take), hm, Fu.kp, Fu.bind (fun _ _ _ _ _ _ us hl => match us, hl with | [_, _], _ => rfl)⟩
/-! ### _law_alike -/
abbrev s__law_alike : Stmt := topS 15
theorem sc__law_alike : FnScope ["found", "right", "pairs", "at", "one", "other"] ["found", "right"] (defScope s__law_alike) := ⟨rfl, rfl, rfl, by decide +kernel, rfl, by decide +kernel, by decide +kernel⟩
noncomputable def F__law_alike : Ex :=
  (xSeq (xPar 2 3 (eLst (aCons (eTup (aCons (eVar 0) (aCons (eVar 1) aNil))) aNil)) (eC (.int 0)))
    (xSeq (xWhile (bE (eOp pLt (eVar 3) (eCb pLen (aCons (eVar 2) aNil)))) (xSeq (xAsg (gT 2 (gCons (gN 4) (gCons (gN 5) gNil))) (eOp pIx (eVar 2) (eVar 3)))
    (xSeq (xAug 3 (fun i j => i + j) (eC (.int 1)))
    (xSeq (xIf (bOr (bE (eOp pNe (eIsi ["bool"] (eVar 4)) (eIsi ["bool"] (eVar 5)))) (bE (eOp pNe (eIsi ["str"] (eVar 4)) (eIsi ["str"] (eVar 5))))) (xRet (eC (.bool false))) xNx)
    (xSeq (xIf (bE (eOp pNe (eIsi ["tuple", "list"] (eVar 4)) (eIsi ["tuple", "list"] (eVar 5)))) (xRet (eC (.bool false))) xNx)
    (xIf (bV (eIsi ["tuple", "list"] (eVar 4))) (xSeq (xIf (bOr (bE (eOp pNe (eIsi ["tuple"] (eVar 4)) (eIsi ["tuple"] (eVar 5)))) (bE (eOp pNe (eCb pLen (aCons (eVar 4) aNil)) (eCb pLen (aCons (eVar 5) aNil))))) (xRet (eC (.bool false))) xNx)
    (xEx (eMeth 2 pmExtend (aCons (eLz (aCons (eVar 4) (aCons (eVar 5) aNil))) aNil)))) (xIf (bOr (bE (eOp pNe (eIsi ["bool", "int", "str"] (eVar 4)) (eIsi ["bool", "int", "str"] (eVar 5)))) (bE (eOp pNe (eVar 4) (eVar 5)))) (xRet (eC (.bool false))) xNx)))))))
    (xRet (eC (.bool true)))))
noncomputable def g__law_alike : List D → Option D := runP 6 2 F__law_alike
theorem b__law_alike (hN : base.NoSeer) (hgt : P.given.tree = none) (m_bool : mg "bool" = none) (m_int : mg "int" = none) (m_isinstance : mg "isinstance" = none) (m_len : mg "len" = none) (m_list : mg "list" = none) (m_str : mg "str" = none) (m_tuple : mg "tuple" = none) (m_zip : mg "zip" = none) {f : Addr} : Body P w K mg base T 41 ["found", "right", "pairs", "at", "one", "other"] "_law_alike" s__law_alike f (fun _ => True) F__law_alike := fun cdv hcode A outer s H E hr C hT => by
  have nd := sc__law_alike.nd
  have ax := ax_of (P := P) (w := w) (K := K) (mg := mg) (base := base) (N := ["found", "right", "pairs", "at", "one", "other"]) (qual := "_law_alike") (scope := defScope s__law_alike) (f := f) (cdv := cdv) (A := A) (outer := outer) (s := s) (H := H) (E := E) hr (by decide) hN hgt rfl rfl
  exact (xb_cons (xs_par (i := 2) (j := 3) rfl nd rfl rfl (by decide) rfl rfl (ev_lst (ea_cons (ev_tup (ea_cons (ev_var (pv 0)) (ea_cons (ev_var (pv 1)) ea_nil))) ea_nil)) (fun B => ev_int))
    (xb_cons (xs_while PassesOwn.never (et_cmp op_lt (os_cmpI _) (ev_var (pv 3)) (ev_cb cr_lenA cs_len (by rfl) m_len boot_lenX (ea_cons (ev_var (pv 2)) ea_nil))) (xb_cons (xs_asg (ev_ix ix_seq os_ix (ev_var (pv 2)) (ev_var (pv 3))) (eg_tup rfl (egs_cons (eg_name (i := 4) nd rfl (by first | exact Or.inl rfl | exact Or.inr rfl)) (egs_cons (eg_name (i := 5) nd rfl (by first | exact Or.inl rfl | exact Or.inr rfl)) egs_nil))))
    (xb_cons (xs_aug (i := 3) nd rfl (by first | exact Or.inl rfl | exact Or.inr rfl) ev_int ip_add)
    (xb_cons (xs_if (et_w (ew_or (et_cmp (op_neX ax) os_ne (ev_isi (by rfl) m_isinstance (ev_var (pv 4)) (ty_name (by rfl) m_bool boot_boolX)) (ev_isi (by rfl) m_isinstance (ev_var (pv 5)) (ty_name (by rfl) m_bool boot_boolX))) (ew_or1 (et_cmp (op_neX ax) os_ne (ev_isi (by rfl) m_isinstance (ev_var (pv 4)) (ty_name (by rfl) m_str boot_strX)) (ev_isi (by rfl) m_isinstance (ev_var (pv 5)) (ty_name (by rfl) m_str boot_strX)))))) (xb_one (xs_ret ev_bl)) xb_nil)
    (xb_cons (xs_if (et_cmp (op_neX ax) os_ne (ev_isiT (by rfl) m_isinstance (ev_var (pv 4)) (tys_cons (ty_name (by rfl) m_tuple boot_tupleX) (tys_cons (ty_name (by rfl) m_list boot_listX) tys_nil)) (by decide)) (ev_isiT (by rfl) m_isinstance (ev_var (pv 5)) (tys_cons (ty_name (by rfl) m_tuple boot_tupleX) (tys_cons (ty_name (by rfl) m_list boot_listX) tys_nil)) (by decide))) (xb_one (xs_ret ev_bl)) xb_nil)
    (xb_one (xs_if (et_truth (ev_isiT (by rfl) m_isinstance (ev_var (pv 4)) (tys_cons (ty_name (by rfl) m_tuple boot_tupleX) (tys_cons (ty_name (by rfl) m_list boot_listX) tys_nil)) (by decide))) (xb_cons (xs_if (et_w (ew_or (et_cmp (op_neX ax) os_ne (ev_isi (by rfl) m_isinstance (ev_var (pv 4)) (ty_name (by rfl) m_tuple boot_tupleX)) (ev_isi (by rfl) m_isinstance (ev_var (pv 5)) (ty_name (by rfl) m_tuple boot_tupleX))) (ew_or1 (et_cmp (op_neX ax) os_ne (ev_cb cr_lenA cs_len (by rfl) m_len boot_lenX (ea_cons (ev_var (pv 4)) ea_nil)) (ev_cb cr_lenA cs_len (by rfl) m_len boot_lenX (ea_cons (ev_var (pv 5)) ea_nil)))))) (xb_one (xs_ret ev_bl)) xb_nil)
    (xb_one (xs_expr (ev_extend (pv 2) (ea_cons (ev_lz (by rfl) m_list (by rfl) m_zip (ea_cons (ev_var (pv 4)) (ea_cons (ev_var (pv 5)) ea_nil))) ea_nil))))) (xb_one (xs_if (et_w (ew_or (et_cmp (op_neX ax) os_ne (ev_isiT (by rfl) m_isinstance (ev_var (pv 4)) (tys_cons (ty_name (by rfl) m_bool boot_boolX) (tys_cons (ty_name (by rfl) m_int boot_intX) (tys_cons (ty_name (by rfl) m_str boot_strX) tys_nil))) (by decide)) (ev_isiT (by rfl) m_isinstance (ev_var (pv 5)) (tys_cons (ty_name (by rfl) m_bool boot_boolX) (tys_cons (ty_name (by rfl) m_int boot_intX) (tys_cons (ty_name (by rfl) m_str boot_strX) tys_nil))) (by decide))) (ew_or1 (et_cmp (op_neX ax) os_ne (ev_var (pv 4)) (ev_var (pv 5)))))) (xb_one (xs_ret ev_bl)) xb_nil)))))))))
    (xb_one (xs_ret ev_bl))))
theorem h__law_alike (hN : base.NoSeer) (hgt : P.given.tree = none) (m_bool : mg "bool" = none) (m_int : mg "int" = none) (m_isinstance : mg "isinstance" = none) (m_len : mg "len" = none) (m_list : mg "list" = none) (m_str : mg "str" = none) (m_tuple : mg "tuple" = none) (m_zip : mg "zip" = none) {f : Addr} {fd : FuncData} (Fu : FunC K "_law_alike" "_law_alike" s__law_alike f fd (fun _ => True)) (hm : mg "_law_alike" = some (.ref f)) : Has P w K mg base 42 "_law_alike" ["found", "right"] (spP K T 2 g__law_alike) :=
  ⟨f, fd, fn_P Fu sc__law_alike (by decide) (b__law_alike hN hgt m_bool m_int m_isinstance m_len m_list m_str m_tuple m_zip), hm, Fu.kp, Fu.bind (fun _ _ _ _ _ _ us hl => match us, hl with | [_, _], _ => rfl)⟩
/-! ### _law_number -/
abbrev s__law_number : Stmt := topS 16
theorem sc__law_number : FnScope ["bag", "great"] ["bag"] (defScope s__law_number) := ⟨rfl, rfl, rfl, by decide +kernel, rfl, by decide +kernel, by decide +kernel⟩
noncomputable def F__law_number : Ex :=
  (xSeq (xSet 1 (eCallM g__law_take (aCons (eVar 0) (aCons (eOp pPow (eC (.int 10)) (eC (.int 18))) aNil))))
    (xRet (eCallM g__law_some (aCons (eVar 0) (aCons (eLst (aCons (eC (.int 0)) (aCons (eC (.int 0)) (aCons (eC (.int 1)) (aCons (eUn pNeg (eC (.int 1))) (aCons (eC (.int 2)) (aCons (eUn pNeg (eC (.int 3))) (aCons (eC (.int 5)) (aCons (eC (.int 12)) (aCons (eOp pSub (eCallM g__law_take (aCons (eVar 0) (aCons (eC (.int 30)) aNil))) (eC (.int 15))) (aCons (eVar 1) (aCons (eUn pNeg (eVar 1)) aNil)))))))))))) aNil)))))
noncomputable def g__law_number : D → List D → Option (D × D) := runM 2 1 F__law_number
theorem b__law_number (hN : base.NoSeer) (hgt : P.given.tree = none) (h__law_some : Has P w K mg base 43 "_law_some" ["bag", "things"] (spM K T 2 g__law_some)) (h__law_take : Has P w K mg base 42 "_law_take" ["bag", "many"] (spM K T 2 g__law_take)) {f : Addr} : Body P w K mg base T 43 ["bag", "great"] "_law_number" s__law_number f (fun _ => True) F__law_number := fun cdv hcode A outer s H E hr C hT => by
  have nd := sc__law_number.nd
  have ax := ax_of (P := P) (w := w) (K := K) (mg := mg) (base := base) (N := ["bag", "great"]) (qual := "_law_number") (scope := defScope s__law_number) (f := f) (cdv := cdv) (A := A) (outer := outer) (s := s) (H := H) (E := E) hr (by decide) hN hgt rfl rfl
  exact (xb_cons (xs_set (i := 1) nd rfl (by first | exact Or.inl rfl | exact Or.inr rfl) (ev_callMH h__law_take hT (fun _ _ _ h => runM_len h) (hr.mono (by decide)) (by rfl) (ea_cons (ev_var (pv 0)) (ea_cons (ev_op op_pow os_pow ev_int ev_int) ea_nil))))
    (xb_one (xs_ret (ev_callMH h__law_some hT (fun _ _ _ h => runM_len h) (hr.mono (by decide)) (by rfl) (ea_cons (ev_var (pv 0)) (ea_cons (ev_lst (ea_cons ev_int (ea_cons ev_int (ea_cons ev_int (ea_cons (ev_un un_neg us_neg ev_int) (ea_cons ev_int (ea_cons (ev_un un_neg us_neg ev_int) (ea_cons ev_int (ea_cons ev_int (ea_cons (ev_op op_sub os_sub (ev_callMH h__law_take hT (fun _ _ _ h => runM_len h) (hr.mono (by decide)) (by rfl) (ea_cons (ev_var (pv 0)) (ea_cons ev_int ea_nil))) ev_int) (ea_cons (ev_var (pv 1)) (ea_cons (ev_un un_neg us_neg (ev_var (pv 1))) ea_nil)))))))))))) ea_nil))))))
theorem h__law_number (hN : base.NoSeer) (hgt : P.given.tree = none) (h__law_some : Has P w K mg base 43 "_law_some" ["bag", "things"] (spM K T 2 g__law_some)) (h__law_take : Has P w K mg base 42 "_law_take" ["bag", "many"] (spM K T 2 g__law_take)) {f : Addr} {fd : FuncData} (Fu : FunC K "_law_number" "_law_number" s__law_number f fd (fun _ => True)) (hm : mg "_law_number" = some (.ref f)) : Has P w K mg base 44 "_law_number" ["bag"] (spM K T 1 g__law_number) :=
  ⟨f, fd, fn_M Fu sc__law_number (by decide) (b__law_number hN hgt h__law_some h__law_take), hm, Fu.kp, Fu.bind (fun _ _ _ _ _ _ us hl => match us, hl with | [_], _ => rfl)⟩
/-! ### _law_sum -/
abbrev s__law_sum : Stmt := topS 17
theorem sc__law_sum : FnScope ["one", "other", "times", "its", "mine"] ["one", "other", "times"] (defScope s__law_sum) := ⟨rfl, rfl, rfl, by decide +kernel, rfl, by decide +kernel, by decide +kernel⟩
noncomputable def F__law_sum : Ex :=
  (xRet (eCb pTuple (aCons (eLc [4, 3] (lZi (aCons (eVar 0) (aCons (eVar 1) aNil))) (gT 2 (gCons (gN 4) (gCons (gN 3) gNil))) bYes (eOp pAdd (eVar 4) (eOp pMul (eVar 2) (eVar 3)))) aNil)))
noncomputable def g__law_sum : List D → Option D := runP 5 3 F__law_sum
theorem b__law_sum (hN : base.NoSeer) (hgt : P.given.tree = none) (m_tuple : mg "tuple" = none) (m_zip : mg "zip" = none) {f : Addr} : Body P w K mg base T 41 ["one", "other", "times", "its", "mine"] "_law_sum" s__law_sum f (fun _ => True) F__law_sum := fun cdv hcode A outer s H E hr C hT => by
  have nd := sc__law_sum.nd
  have ax := ax_of (P := P) (w := w) (K := K) (mg := mg) (base := base) (N := ["one", "other", "times", "its", "mine"]) (qual := "_law_sum") (scope := defScope s__law_sum) (f := f) (cdv := cdv) (A := A) (outer := outer) (s := s) (H := H) (E := E) hr (by decide) hN hgt rfl rfl
  exact (xb_one (xs_ret (ev_ct call_tuple_of cs_tuple (by rfl) m_tuple boot_tupleX (ea_cons (ev_lc (own := [("mine", 4), ("its", 3)]) rfl nd (ei_zi (by rfl) m_zip (ea_cons (ev_var (pv 0)) (ea_cons (ev_var (pv 1)) ea_nil))) (blkOk_by (by kernel_rfl)) (by decide) (fun B s H Ca cl fp => (eg_tup rfl (egs_cons (eg_name (i := 4) nd rfl (by first | exact Or.inl rfl | exact Or.inr rfl)) (egs_cons (eg_name (i := 3) nd rfl (by first | exact Or.inl rfl | exact Or.inr rfl)) egs_nil)))) (fun B s H Ca cl fp => ets_nil) (fun B s H Ca cl fp => (ev_op op_addA os_add (ev_var (pv 4)) (ev_op op_mulA os_mul (ev_var (pv 2)) (ev_var (pv 3)))))) ea_nil))))
theorem h__law_sum (hN : base.NoSeer) (hgt : P.given.tree = none) (m_tuple : mg "tuple" = none) (m_zip : mg "zip" = none) {f : Addr} {fd : FuncData} (Fu : FunC K "_law_sum" "_law_sum" s__law_sum f fd (fun _ => True)) (hm : mg "_law_sum" = some (.ref f)) : Has P w K mg base 42 "_law_sum" ["one", "other", "times"] (spP K T 3 g__law_sum) :=
  ⟨f, fd, fn_P Fu sc__law_sum (by decide) (b__law_sum hN hgt m_tuple m_zip), hm, Fu.kp, Fu.bind (fun _ _ _ _ _ _ us hl => match us, hl with | [_, _, _], _ => rfl)⟩
/-! ### _law_otherwise -/
abbrev s__law_otherwise : Stmt := topS 18
theorem sc__law_otherwise : FnScope ["bag", "rows", "columns", "found", "turn", "way", "at", "other", "one"] ["bag", "rows", "columns"] (defScope s__law_otherwise) := ⟨rfl, rfl, rfl, by decide +kernel, rfl, by decide +kernel, by decide +kernel⟩
noncomputable def F__law_otherwise : Ex :=
  (xSeq (xSet 3 (eCb pList (aCons (eVar 1) aNil)))
    (xSeq (xFor (lRng1 (aCons (eCallM g__law_take (aCons (eVar 0) (aCons (eC (.int 8)) aNil))) aNil)) (gN 4) (xSeq (xSet 5 (eCallM g__law_take (aCons (eVar 0) (aCons (eC (.int 5)) aNil))))
    (xSeq (xIf (bOr (bE (eOp pEq (eVar 5) (eC (.int 0)))) (bE (eOp pEq (eVar 3) (eLst aNil)))) (xSeq (xEx (eMeth 3 pmInsert (aCons (eCallM g__law_take (aCons (eVar 0) (aCons (eOp pAdd (eCb pLen (aCons (eVar 3) aNil)) (eC (.int 1))) aNil))) (aCons (eCb pTuple (aCons (eOp pMul (eLst (aCons (eC (.int 0)) aNil)) (eVar 2)) aNil)) aNil))))
    xCnt) xNx)
    (xSeq (xPar 6 7 (eCallM g__law_take (aCons (eVar 0) (aCons (eCb pLen (aCons (eVar 3) aNil)) aNil))) (eCallM g__law_take (aCons (eVar 0) (aCons (eCb pLen (aCons (eVar 3) aNil)) aNil))))
    (xIf (bE (eOp pEq (eVar 5) (eC (.int 1)))) (xAsg (gIx 3 (eVar 6)) (eCb pTuple (aCons (eLc [8] (lSeq (eOp pIx (eVar 3) (eVar 6))) (gN 8) bYes (eUn pNeg (eVar 8))) aNil))) (xIf (bAnd (bE (eOp pEq (eVar 5) (eC (.int 2)))) (bE (eOp pNe (eVar 6) (eVar 7)))) (xAsg (gIx 3 (eVar 6)) (eCall g__law_sum (aCons (eOp pIx (eVar 3) (eVar 6)) (aCons (eOp pIx (eVar 3) (eVar 7)) (aCons (eCallM g__law_some (aCons (eVar 0) (aCons (eLst (aCons (eC (.int 1)) (aCons (eUn pNeg (eC (.int 1))) (aCons (eC (.int 2)) (aCons (eUn pNeg (eC (.int 7))) (aCons (eC (.int 1000)) aNil)))))) aNil))) aNil))))) (xIf (bE (eOp pEq (eVar 5) (eC (.int 3)))) (xEx (eMeth 3 pmAppend (aCons (eCall g__law_sum (aCons (eOp pIx (eVar 3) (eVar 6)) (aCons (eOp pIx (eVar 3) (eVar 7)) (aCons (eCallM g__law_some (aCons (eVar 0) (aCons (eLst (aCons (eC (.int 0)) (aCons (eC (.int 1)) (aCons (eUn pNeg (eC (.int 4))) aNil)))) aNil))) aNil)))) aNil))) (xSet 3 (eRev (eVar 3))))))))))
    (xRet (eVar 3))))
noncomputable def g__law_otherwise : D → List D → Option (D × D) := runM 9 3 F__law_otherwise
theorem b__law_otherwise (hN : base.NoSeer) (hgt : P.given.tree = none) (m_len : mg "len" = none) (m_list : mg "list" = none) (m_range : mg "range" = none) (m_tuple : mg "tuple" = none) (h__law_some : Has P w K mg base 43 "_law_some" ["bag", "things"] (spM K T 2 g__law_some)) (h__law_sum : Has P w K mg base 42 "_law_sum" ["one", "other", "times"] (spP K T 3 g__law_sum)) (h__law_take : Has P w K mg base 42 "_law_take" ["bag", "many"] (spM K T 2 g__law_take)) {f : Addr} : Body P w K mg base T 43 ["bag", "rows", "columns", "found", "turn", "way", "at", "other", "one"] "_law_otherwise" s__law_otherwise f (fun _ => True) F__law_otherwise := fun cdv hcode A outer s H E hr C hT => by
  have nd := sc__law_otherwise.nd
  have ax := ax_of (P := P) (w := w) (K := K) (mg := mg) (base := base) (N := ["bag", "rows", "columns", "found", "turn", "way", "at", "other", "one"]) (qual := "_law_otherwise") (scope := defScope s__law_otherwise) (f := f) (cdv := cdv) (A := A) (outer := outer) (s := s) (H := H) (E := E) hr (by decide) hN hgt rfl rfl
  exact (xb_cons (xs_set (i := 3) nd rfl (by first | exact Or.inl rfl | exact Or.inr rfl) (ev_ct call_list_of cs_list (by rfl) m_list boot_listX (ea_cons (ev_var (pv 1)) ea_nil)))
    (xb_cons (xs_for PassesOwn.never rfl (ei_rng1 (by rfl) m_range (ea_cons (ev_callMH h__law_take hT (fun _ _ _ h => runM_len h) (hr.mono (by decide)) (by rfl) (ea_cons (ev_var (pv 0)) (ea_cons ev_int ea_nil))) ea_nil)) (eg_name (i := 4) nd rfl (by first | exact Or.inl rfl | exact Or.inr rfl)) (xb_cons (xs_set (i := 5) nd rfl (by first | exact Or.inl rfl | exact Or.inr rfl) (ev_callMH h__law_take hT (fun _ _ _ h => runM_len h) (hr.mono (by decide)) (by rfl) (ea_cons (ev_var (pv 0)) (ea_cons ev_int ea_nil))))
    (xb_cons (xs_if (et_w (ew_or (et_cmp (op_eqX ax) os_eq (ev_var (pv 5)) ev_int) (ew_or1 (et_cmp (op_eqX ax) os_eq (ev_var (pv 3)) (ev_lst ea_nil))))) (xb_cons (xs_expr (ev_insert (pv 3) (ea_cons (ev_callMH h__law_take hT (fun _ _ _ h => runM_len h) (hr.mono (by decide)) (by rfl) (ea_cons (ev_var (pv 0)) (ea_cons (ev_op op_addA os_add (ev_cb cr_lenA cs_len (by rfl) m_len boot_lenX (ea_cons (ev_var (pv 3)) ea_nil)) ev_int) ea_nil))) (ea_cons (ev_ct call_tuple_of cs_tuple (by rfl) m_tuple boot_tupleX (ea_cons (ev_op op_mulA os_mul (ev_lst (ea_cons ev_int ea_nil)) (ev_var (pv 2))) ea_nil)) ea_nil))))
    (xb_one xs_continue)) xb_nil)
    (xb_cons (xs_par (i := 6) (j := 7) rfl nd rfl rfl (by decide) rfl rfl (ev_callMH h__law_take hT (fun _ _ _ h => runM_len h) (hr.mono (by decide)) (by rfl) (ea_cons (ev_var (pv 0)) (ea_cons (ev_cb cr_lenA cs_len (by rfl) m_len boot_lenX (ea_cons (ev_var (pv 3)) ea_nil)) ea_nil))) (fun B => (ev_callMH h__law_take hT (fun _ _ _ h => runM_len h) (hr.mono (by decide)) (by rfl) (ea_cons (ev_var (pv 0)) (ea_cons (ev_cb cr_lenA cs_len (by rfl) m_len boot_lenX (ea_cons (ev_var (pv 3)) ea_nil)) ea_nil)))))
    (xb_one (xs_if (et_cmp (op_eqX ax) os_eq (ev_var (pv 5)) ev_int) (xb_one (xs_asg (ev_ct call_tuple_of cs_tuple (by rfl) m_tuple boot_tupleX (ea_cons (ev_lc (own := [("one", 8)]) rfl nd (ei_seq (ev_ix ix_seq os_ix (ev_var (pv 3)) (ev_var (pv 6)))) (blkOk_by (by kernel_rfl)) (by decide) (fun B s H Ca cl fp => (eg_name (i := 8) nd rfl (by first | exact Or.inl rfl | exact Or.inr rfl))) (fun B s H Ca cl fp => ets_nil) (fun B s H Ca cl fp => (ev_un un_neg us_neg (ev_var (pv 8))))) ea_nil)) (eg_ix (pv 3) (ev_var (pv 6))))) (xb_one (xs_if (et_w (ew_and (et_cmp (op_eqX ax) os_eq (ev_var (pv 5)) ev_int) (ew_and1 (et_cmp (op_neX ax) os_ne (ev_var (pv 6)) (ev_var (pv 7)))))) (xb_one (xs_asg (ev_callH h__law_sum hT (fun _ _ h => runP_len h) (hr.mono (by decide)) (by rfl) (ea_cons (ev_ix ix_seq os_ix (ev_var (pv 3)) (ev_var (pv 6))) (ea_cons (ev_ix ix_seq os_ix (ev_var (pv 3)) (ev_var (pv 7))) (ea_cons (ev_callMH h__law_some hT (fun _ _ _ h => runM_len h) (hr.mono (by decide)) (by rfl) (ea_cons (ev_var (pv 0)) (ea_cons (ev_lst (ea_cons ev_int (ea_cons (ev_un un_neg us_neg ev_int) (ea_cons ev_int (ea_cons (ev_un un_neg us_neg ev_int) (ea_cons ev_int ea_nil)))))) ea_nil))) ea_nil)))) (eg_ix (pv 3) (ev_var (pv 6))))) (xb_one (xs_if (et_cmp (op_eqX ax) os_eq (ev_var (pv 5)) ev_int) (xb_one (xs_expr (ev_append (pv 3) (ea_cons (ev_callH h__law_sum hT (fun _ _ h => runP_len h) (hr.mono (by decide)) (by rfl) (ea_cons (ev_ix ix_seq os_ix (ev_var (pv 3)) (ev_var (pv 6))) (ea_cons (ev_ix ix_seq os_ix (ev_var (pv 3)) (ev_var (pv 7))) (ea_cons (ev_callMH h__law_some hT (fun _ _ _ h => runM_len h) (hr.mono (by decide)) (by rfl) (ea_cons (ev_var (pv 0)) (ea_cons (ev_lst (ea_cons ev_int (ea_cons ev_int (ea_cons (ev_un un_neg us_neg ev_int) ea_nil)))) ea_nil))) ea_nil)))) ea_nil)))) (xb_one (xs_set (i := 3) nd rfl (by first | exact Or.inl rfl | exact Or.inr rfl) (ev_rev (ev_var (pv 3)))))))))))))))
    (xb_one (xs_ret (ev_var (pv 3))))))
theorem h__law_otherwise (hN : base.NoSeer) (hgt : P.given.tree = none) (m_len : mg "len" = none) (m_list : mg "list" = none) (m_range : mg "range" = none) (m_tuple : mg "tuple" = none) (h__law_some : Has P w K mg base 43 "_law_some" ["bag", "things"] (spM K T 2 g__law_some)) (h__law_sum : Has P w K mg base 42 "_law_sum" ["one", "other", "times"] (spP K T 3 g__law_sum)) (h__law_take : Has P w K mg base 42 "_law_take" ["bag", "many"] (spM K T 2 g__law_take)) {f : Addr} {fd : FuncData} (Fu : FunC K "_law_otherwise" "_law_otherwise" s__law_otherwise f fd (fun _ => True)) (hm : mg "_law_otherwise" = some (.ref f)) : Has P w K mg base 44 "_law_otherwise" ["bag", "rows", "columns"] (spM K T 3 g__law_otherwise) :=
  ⟨f, fd, fn_M Fu sc__law_otherwise (by decide) (b__law_otherwise hN hgt m_len m_list m_range m_tuple h__law_some h__law_sum h__law_take), hm, Fu.kp, Fu.bind (fun _ _ _ _ _ _ us hl => match us, hl with | [_, _, _], _ => rfl)⟩
/-! ### _law_shape -/
abbrev s__law_shape : Stmt := topS 19
theorem sc__law_shape : FnScope ["form", "columns", "heads", "row", "some", "at", "head"] ["form", "columns"] (defScope s__law_shape) := ⟨rfl, rfl, rfl, by decide +kernel, rfl, by decide +kernel, by decide +kernel⟩
noncomputable def F__law_shape : Ex :=
  (xSeq (xSet 2 (eLst aNil))
    (xSeq (xFor (lSeq (eVar 0)) (gN 3) (xSeq (xSet 4 (eLc [5] (lRng1 (aCons (eVar 1) aNil)) (gN 5) (bE (eOp pNe (eOp pIx (eVar 3) (eVar 5)) (eC (.int 0)))) (eVar 5)))
    (xSeq (xIf (bOr (bE (eOp pEq (eVar 4) (eLst aNil))) (bOr (bE (eOp pLt (eOp pIx (eVar 3) (eOp pIx (eVar 4) (eC (.int 0)))) (eC (.int 0)))) (bAnd (bE (eOp pNe (eVar 2) (eLst aNil))) (bE (eOp pGe (eOp pIx (eVar 2) (eUn pNeg (eC (.int 1)))) (eOp pIx (eVar 4) (eC (.int 0)))))))) (xRet (eC .none)) xNx)
    (xEx (eMeth 2 pmAppend (aCons (eOp pIx (eVar 4) (eC (.int 0))) aNil))))))
    (xSeq (xFor (lEn (aCons (eVar 2) aNil)) (gT 2 (gCons (gN 5) (gCons (gN 6) gNil))) (xIf (bE (eOp pNe (eLc [3] (lSeq (eSl (eVar 0) oNone (oSome (eVar 5)))) (gN 3) (bNot (bE (eChain pLe pLt (eC (.int 0)) (eOp pIx (eVar 3) (eVar 6)) (eOp pIx (eOp pIx (eVar 0) (eVar 5)) (eVar 6))))) (eC (.int 1))) (eLst aNil))) (xRet (eC .none)) xNx))
    (xRet (eVar 2)))))
noncomputable def g__law_shape : List D → Option D := runP 7 2 F__law_shape
theorem b__law_shape (hN : base.NoSeer) (hgt : P.given.tree = none) (m_enumerate : mg "enumerate" = none) (m_range : mg "range" = none) {f : Addr} : Body P w K mg base T 41 ["form", "columns", "heads", "row", "some", "at", "head"] "_law_shape" s__law_shape f (fun _ => True) F__law_shape := fun cdv hcode A outer s H E hr C hT => by
  have nd := sc__law_shape.nd
  have ax := ax_of (P := P) (w := w) (K := K) (mg := mg) (base := base) (N := ["form", "columns", "heads", "row", "some", "at", "head"]) (qual := "_law_shape") (scope := defScope s__law_shape) (f := f) (cdv := cdv) (A := A) (outer := outer) (s := s) (H := H) (E := E) hr (by decide) hN hgt rfl rfl
  exact (xb_cons (xs_set (i := 2) nd rfl (by first | exact Or.inl rfl | exact Or.inr rfl) (ev_lst ea_nil))
    (xb_cons (xs_for PassesOwn.never rfl (ei_seq (ev_var (pv 0))) (eg_name (i := 3) nd rfl (by first | exact Or.inl rfl | exact Or.inr rfl)) (xb_cons (xs_setLc (i := 4) (own := [("at", 5)]) rfl nd rfl rfl (sw_true rfl rfl rfl rfl) (ei_rng1 (by rfl) m_range (ea_cons (ev_var (pv 1)) ea_nil)) (blkOk_by (by kernel_rfl)) (by decide) (fun B s H Ca cl fp => (eg_name (i := 5) nd rfl (by first | exact Or.inl rfl | exact Or.inr rfl))) (fun B s H Ca cl fp => (ets_one (et_cmp (op_neX (Ax.blk ax _ _ _ _ _)) os_ne (ev_ix ix_seq os_ix (ev_var (pv 3)) (ev_var (pv 5))) ev_int))) (fun B s H Ca cl fp => (ev_var (pv 5))))
    (xb_cons (xs_if (et_w (ew_or (et_cmp (op_eqX ax) os_eq (ev_var (pv 4)) (ev_lst ea_nil)) (ew_or (et_cmp op_lt (os_cmpI _) (ev_ix ix_seq os_ix (ev_var (pv 3)) (ev_ix ix_seq os_ix (ev_var (pv 4)) ev_int)) ev_int) (ew_or1 (et_w (ew_and (et_cmp (op_neX ax) os_ne (ev_var (pv 2)) (ev_lst ea_nil)) (ew_and1 (et_cmp op_ge (os_cmpI _) (ev_ix ix_seq os_ix (ev_var (pv 2)) (ev_un un_neg us_neg ev_int)) (ev_ix ix_seq os_ix (ev_var (pv 4)) ev_int))))))))) (xb_one (xs_ret ev_non)) xb_nil)
    (xb_one (xs_expr (ev_append (pv 2) (ea_cons (ev_ix ix_seq os_ix (ev_var (pv 4)) ev_int) ea_nil)))))))
    (xb_cons (xs_for PassesOwn.never rfl (ei_en (by rfl) m_enumerate (ea_cons (ev_var (pv 2)) ea_nil)) (eg_tup rfl (egs_cons (eg_name (i := 5) nd rfl (by first | exact Or.inl rfl | exact Or.inr rfl)) (egs_cons (eg_name (i := 6) nd rfl (by first | exact Or.inl rfl | exact Or.inr rfl)) egs_nil))) (xb_one (xs_if (et_cmp (op_neX ax) os_ne (ev_lc (own := [("row", 3)]) rfl nd (ei_seq (ev_sl (ev_var (pv 0)) eo_none (eo_some (ev_var (pv 5))))) (blkOk_by (by kernel_rfl)) (by decide) (fun B s H Ca cl fp => (eg_name (i := 3) nd rfl (by first | exact Or.inl rfl | exact Or.inr rfl))) (fun B s H Ca cl fp => (ets_one (et_not (et_chain op_le (os_cmpI _) op_lt (os_cmpI _) ev_int (ev_ix ix_seq os_ix (ev_var (pv 3)) (ev_var (pv 6))) (ev_ix ix_seq os_ix (ev_ix ix_seq os_ix (ev_var (pv 0)) (ev_var (pv 5))) (ev_var (pv 6))))))) (fun B s H Ca cl fp => ev_int)) (ev_lst ea_nil)) (xb_one (xs_ret ev_non)) xb_nil)))
    (xb_one (xs_ret (ev_var (pv 2)))))))
theorem h__law_shape (hN : base.NoSeer) (hgt : P.given.tree = none) (m_enumerate : mg "enumerate" = none) (m_range : mg "range" = none) {f : Addr} {fd : FuncData} (Fu : FunC K "_law_shape" "_law_shape" s__law_shape f fd (fun _ => True)) (hm : mg "_law_shape" = some (.ref f)) : Has P w K mg base 42 "_law_shape" ["form", "columns"] (spP K T 2 g__law_shape) :=
  ⟨f, fd, fn_P Fu sc__law_shape (by decide) (b__law_shape hN hgt m_enumerate m_range), hm, Fu.kp, Fu.bind (fun _ _ _ _ _ _ us hl => match us, hl with | [_, _], _ => rfl)⟩
/-! ### _law_made -/
abbrev s__law_made : Stmt := topS 20
theorem sc__law_made : FnScope ["form", "heads", "row", "its", "head", "one"] ["form", "heads", "row"] (defScope s__law_made) := ⟨rfl, rfl, rfl, by decide +kernel, rfl, by decide +kernel, by decide +kernel⟩
noncomputable def F__law_made : Ex :=
  (xSeq (xFor (lZi (aCons (eVar 0) (aCons (eVar 1) aNil))) (gT 2 (gCons (gN 3) (gCons (gN 4) gNil))) (xSeq (xIf (bE (eOp pNe (eOp pMod (eCb pInt (aCons (eOp pIx (eVar 2) (eVar 4)) aNil)) (eOp pIx (eVar 3) (eVar 4))) (eC (.int 0)))) (xRet (eC (.bool false))) xNx)
    (xSet 2 (eCall g__law_sum (aCons (eVar 2) (aCons (eVar 3) (aCons (eUn pNeg (eOp pFdiv (eOp pIx (eVar 2) (eVar 4)) (eOp pIx (eVar 3) (eVar 4)))) aNil)))))))
    (xRet (eOp pEq (eLc [5] (lSeq (eVar 2)) (gN 5) (bE (eOp pNe (eVar 5) (eC (.int 0)))) (eC (.int 1))) (eLst aNil))))
noncomputable def g__law_made : List D → Option D := runP 6 3 F__law_made
theorem b__law_made (hN : base.NoSeer) (hgt : P.given.tree = none) (m_int : mg "int" = none) (m_zip : mg "zip" = none) (h__law_sum : Has P w K mg base 42 "_law_sum" ["one", "other", "times"] (spP K T 3 g__law_sum)) {f : Addr} : Body P w K mg base T 42 ["form", "heads", "row", "its", "head", "one"] "_law_made" s__law_made f (fun _ => True) F__law_made := fun cdv hcode A outer s H E hr C hT => by
  have nd := sc__law_made.nd
  have ax := ax_of (P := P) (w := w) (K := K) (mg := mg) (base := base) (N := ["form", "heads", "row", "its", "head", "one"]) (qual := "_law_made") (scope := defScope s__law_made) (f := f) (cdv := cdv) (A := A) (outer := outer) (s := s) (H := H) (E := E) hr (by decide) hN hgt rfl rfl
  exact (xb_cons (xs_for PassesOwn.never rfl (ei_zi (by rfl) m_zip (ea_cons (ev_var (pv 0)) (ea_cons (ev_var (pv 1)) ea_nil))) (eg_tup rfl (egs_cons (eg_name (i := 3) nd rfl (by first | exact Or.inl rfl | exact Or.inr rfl)) (egs_cons (eg_name (i := 4) nd rfl (by first | exact Or.inl rfl | exact Or.inr rfl)) egs_nil))) (xb_cons (xs_if (et_cmp (op_neX ax) os_ne (ev_op op_mod os_mod (ev_ct call_int1 cs_int (by rfl) m_int boot_intX (ea_cons (ev_ix ix_seq os_ix (ev_var (pv 2)) (ev_var (pv 4))) ea_nil)) (ev_ix ix_seq os_ix (ev_var (pv 3)) (ev_var (pv 4)))) ev_int) (xb_one (xs_ret ev_bl)) xb_nil)
    (xb_one (xs_set (i := 2) nd rfl (by first | exact Or.inl rfl | exact Or.inr rfl) (ev_callH h__law_sum hT (fun _ _ h => runP_len h) (hr.mono (by decide)) (by rfl) (ea_cons (ev_var (pv 2)) (ea_cons (ev_var (pv 3)) (ea_cons (ev_un un_neg us_neg (ev_op (op_fdivP ax) os_fdiv (ev_ix ix_seq os_ix (ev_var (pv 2)) (ev_var (pv 4))) (ev_ix ix_seq os_ix (ev_var (pv 3)) (ev_var (pv 4))))) ea_nil))))))))
    (xb_one (xs_ret (ev_cmp (op_eqX ax) os_eq (ev_lc (own := [("one", 5)]) rfl nd (ei_seq (ev_var (pv 2))) (blkOk_by (by kernel_rfl)) (by decide) (fun B s H Ca cl fp => (eg_name (i := 5) nd rfl (by first | exact Or.inl rfl | exact Or.inr rfl))) (fun B s H Ca cl fp => (ets_one (et_cmp (op_neX (Ax.blk ax _ _ _ _ _)) os_ne (ev_var (pv 5)) ev_int))) (fun B s H Ca cl fp => ev_int)) (ev_lst ea_nil)))))
theorem h__law_made (hN : base.NoSeer) (hgt : P.given.tree = none) (m_int : mg "int" = none) (m_zip : mg "zip" = none) (h__law_sum : Has P w K mg base 42 "_law_sum" ["one", "other", "times"] (spP K T 3 g__law_sum)) {f : Addr} {fd : FuncData} (Fu : FunC K "_law_made" "_law_made" s__law_made f fd (fun _ => True)) (hm : mg "_law_made" = some (.ref f)) : Has P w K mg base 43 "_law_made" ["form", "heads", "row"] (spP K T 3 g__law_made) :=
  ⟨f, fd, fn_P Fu sc__law_made (by decide) (b__law_made hN hgt m_int m_zip h__law_sum), hm, Fu.kp, Fu.bind (fun _ _ _ _ _ _ us hl => match us, hl with | [_, _, _], _ => rfl)⟩
/-! ### law -/
abbrev s_law : Stmt := topS 21
theorem sc_law : FnScope ["script", "bag", "columns", "rows", "other", "form", "heads", "found", "row", "turn", "its", "at", "still", "again", "right", "one", "two_there"] ["script"] (defScope s_law) := ⟨rfl, rfl, rfl, by decide +kernel, rfl, by decide +kernel, by decide +kernel⟩
noncomputable def F_law : Ex :=
  (xSeq (xSet 1 (eCallF g__law_bag 0))
    (xSeq (xSet 2 (eOp pAdd (eC (.int 2)) (eCallM g__law_take (aCons (eVar 1) (aCons (eC (.int 4)) aNil)))))
    (xSeq (xSet 3 (eLc [9] (lRng1 (aCons (eCallM g__law_take (aCons (eVar 1) (aCons (eC (.int 5)) aNil))) aNil)) (gN 9) bYes (eCb pTuple (aCons (eLc [9] (lRng1 (aCons (eVar 2) aNil)) (gN 9) bYes (eCallM g__law_number (aCons (eVar 1) aNil))) aNil))))
    (xSeq (xSet 4 (eCallM g__law_otherwise (aCons (eVar 1) (aCons (eVar 3) (aCons (eVar 2) aNil)))))
    (xSeq (xSet 5 (eCall g_plain_form (aCons (eIf (bE (eOp pEq (eCallM g__law_take (aCons (eVar 1) (aCons (eC (.int 2)) aNil))) (eC (.int 0)))) (eCb pList (aCons (eVar 3) aNil)) (eCb pTuple (aCons (eVar 3) aNil))) (aCons (eVar 2) aNil))))
    (xSeq (xSet 6 (eCall g__law_shape (aCons (eVar 5) (aCons (eVar 2) aNil))))
    (xSeq (xIf (bOr (bE (eOp pIs (eVar 6) (eC .none))) (bNot (bV (eIsi ["tuple"] (eVar 5))))) (xRet (eC (.bool false))) xNx)
    (xSeq (xSet 7 (eLst (aCons (eCall g_plain_form (aCons (eCb pList (aCons (eVar 4) aNil)) (aCons (eVar 2) aNil))) (aCons (eCall g_plain_form (aCons (eCb pTuple (aCons (eVar 4) aNil)) (aCons (eVar 2) aNil))) (aCons (eCall g_plain_form (aCons (eVar 5) (aCons (eVar 2) aNil))) aNil)))))
    (xSeq (xSet 7 (eOp pAdd (eVar 7) (eLst (aCons (eCall g_rank (aCons (eCb pList (aCons (eVar 3) aNil)) (aCons (eVar 2) aNil))) (aCons (eCall g_rank (aCons (eCb pTuple (aCons (eVar 4) aNil)) (aCons (eVar 2) aNil))) aNil)))))
    (xSeq (xIf (bNot (bV (eCall g__law_alike (aCons (eVar 7) (aCons (eOp pAdd (eOp pMul (eLst (aCons (eVar 5) aNil)) (eC (.int 3))) (eOp pMul (eLst (aCons (eCb pLen (aCons (eVar 5) aNil)) aNil)) (eC (.int 2)))) aNil))))) (xRet (eC (.bool false))) xNx)
    (xSeq (xFor (lSeq (eOp pAdd (eVar 3) (eVar 4))) (gN 8) (xIf (bNot (bV (eCall g__law_made (aCons (eVar 5) (aCons (eVar 6) (aCons (eVar 8) aNil)))))) (xRet (eC (.bool false))) xNx))
    (xSeq (xFor (lSeq (eVar 5)) (gN 8) (xIf (bOr (bE (eOp pIsNot (eCall g_is_made_of (aCons (eCb pList (aCons (eVar 3) aNil)) (aCons (eVar 2) (aCons (eVar 8) aNil)))) (eC (.bool true)))) (bE (eOp pIsNot (eCall g_is_made_of (aCons (eCb pTuple (aCons (eVar 4) aNil)) (aCons (eVar 2) (aCons (eVar 8) aNil)))) (eC (.bool true))))) (xRet (eC (.bool false))) xNx))
    (xSeq (xFor (lRng1 (aCons (eC (.int 5)) aNil)) (gN 9) (xSeq (xSet 8 (eCb pTuple (aCons (eOp pMul (eLst (aCons (eC (.int 0)) aNil)) (eVar 2)) aNil)))
    (xSeq (xFor (lSeq (eVar 4)) (gN 10) (xSet 8 (eCall g__law_sum (aCons (eVar 8) (aCons (eVar 10) (aCons (eCallM g__law_some (aCons (eVar 1) (aCons (eLst (aCons (eC (.int 0)) (aCons (eC (.int 1)) (aCons (eUn pNeg (eC (.int 1))) (aCons (eC (.int 3)) aNil))))) aNil))) aNil))))))
    (xSeq (xIf (bE (eOp pEq (eCallM g__law_take (aCons (eVar 1) (aCons (eC (.int 2)) aNil))) (eC (.int 0)))) (xSeq (xSet 11 (eCallM g__law_take (aCons (eVar 1) (aCons (eVar 2) aNil))))
    (xSet 8 (eOp pAdd (eOp pAdd (eSl (eVar 8) oNone (oSome (eVar 11))) (eTup (aCons (eOp pAdd (eOp pIx (eVar 8) (eVar 11)) (eCallM g__law_some (aCons (eVar 1) (aCons (eLst (aCons (eC (.int 1)) (aCons (eUn pNeg (eC (.int 1))) (aCons (eC (.int 2)) aNil)))) aNil)))) aNil))) (eSl (eVar 8) (oSome (eOp pAdd (eVar 11) (eC (.int 1)))) oNone)))) xNx)
    (xIf (bNot (bV (eCall g__law_alike (aCons (eCall g_is_made_of (aCons (eCb pList (aCons (eVar 3) aNil)) (aCons (eVar 2) (aCons (eVar 8) aNil)))) (aCons (eCall g__law_made (aCons (eVar 5) (aCons (eVar 6) (aCons (eVar 8) aNil)))) aNil))))) (xRet (eC (.bool false))) xNx)))))
    (xSeq (xSet 12 (eCall g_still_rows (aCons (eCb pList (aCons (eVar 3) aNil)) (aCons (eVar 2) aNil))))
    (xSeq (xSet 13 (eCall g_still_rows (aCons (eVar 12) (aCons (eVar 2) aNil))))
    (xSeq (xIf (bOr (bE (eOp pIs (eCall g__law_shape (aCons (eVar 12) (aCons (eVar 2) aNil))) (eC .none))) (bOr (bE (eOp pNe (eCb pLen (aCons (eVar 12) aNil)) (eOp pSub (eVar 2) (eCb pLen (aCons (eVar 5) aNil))))) (bE (eOp pNe (eCb pLen (aCons (eVar 13) aNil)) (eCb pLen (aCons (eVar 5) aNil)))))) (xRet (eC (.bool false))) xNx)
    (xSeq (xFor (lSeq (eVar 12)) (gN 8) (xFor (lSeq (eVar 3)) (gN 10) (xSeq (xSet 14 (eCb pSum (aCons (eLc [15, 16] (lZi (aCons (eVar 8) (aCons (eVar 10) aNil))) (gT 2 (gCons (gN 15) (gCons (gN 16) gNil))) bYes (eOp pMul (eVar 15) (eVar 16))) aNil)))
    (xIf (bOr (bE (eOp pNe (eVar 14) (eC (.int 0)))) (bNot (bV (eCall g__law_alike (aCons (eCall g_dot (aCons (eVar 8) (aCons (eVar 10) aNil))) (aCons (eVar 14) aNil)))))) (xRet (eC (.bool false))) xNx))))
    (xSeq (xSet 6 (eCall g__law_shape (aCons (eVar 13) (aCons (eVar 2) aNil))))
    (xSeq (xIf (bOr (bE (eOp pIs (eVar 6) (eC .none))) (bE (eOp pNe (eLc [8] (lSeq (eVar 3)) (gN 8) (bNot (bV (eCall g__law_made (aCons (eVar 13) (aCons (eVar 6) (aCons (eVar 8) aNil)))))) (eVar 8)) (eLst aNil)))) (xRet (eC (.bool false))) xNx)
    (xRet (eCall g__law_alike (aCons (eLst (aCons (eCall g_still_rows (aCons (eCb pTuple (aCons (eVar 4) aNil)) (aCons (eVar 2) aNil))) (aCons (eCall g_still_rows (aCons (eVar 13) (aCons (eVar 2) aNil))) aNil))) (aCons (eLst (aCons (eVar 12) (aCons (eVar 12) aNil))) aNil)))))))))))))))))))))))
noncomputable def g_law : List Int → Option D := runS 17 F_law
theorem b_law (hN : base.NoSeer) (hgt : P.given.tree = none) (m_isinstance : mg "isinstance" = none) (m_len : mg "len" = none) (m_list : mg "list" = none) (m_range : mg "range" = none) (m_sum : mg "sum" = none) (m_tuple : mg "tuple" = none) (m_zip : mg "zip" = none) (h__law_alike : Has P w K mg base 42 "_law_alike" ["found", "right"] (spP K T 2 g__law_alike)) (h__law_bag : Has P w K mg base 42 "_law_bag" ["script"] (spF K T g__law_bag)) (h__law_made : Has P w K mg base 43 "_law_made" ["form", "heads", "row"] (spP K T 3 g__law_made)) (h__law_number : Has P w K mg base 44 "_law_number" ["bag"] (spM K T 1 g__law_number)) (h__law_otherwise : Has P w K mg base 44 "_law_otherwise" ["bag", "rows", "columns"] (spM K T 3 g__law_otherwise)) (h__law_shape : Has P w K mg base 42 "_law_shape" ["form", "columns"] (spP K T 2 g__law_shape)) (h__law_some : Has P w K mg base 43 "_law_some" ["bag", "things"] (spM K T 2 g__law_some)) (h__law_sum : Has P w K mg base 42 "_law_sum" ["one", "other", "times"] (spP K T 3 g__law_sum)) (h__law_take : Has P w K mg base 42 "_law_take" ["bag", "many"] (spM K T 2 g__law_take)) (h_dot : Has P w K mg base 42 "dot" ["one", "other"] (spP K T 2 g_dot)) (h_is_made_of : Has P w K mg base 46 "is_made_of" ["rows", "columns", "row"] (spP K T 3 g_is_made_of)) (h_plain_form : Has P w K mg base 45 "plain_form" ["rows", "columns"] (spP K T 2 g_plain_form)) (h_rank : Has P w K mg base 46 "rank" ["rows", "columns"] (spP K T 2 g_rank)) (h_still_rows : Has P w K mg base 46 "still_rows" ["rows", "many"] (spP K T 2 g_still_rows)) {f : Addr} : Body P w K mg base T 46 ["script", "bag", "columns", "rows", "other", "form", "heads", "found", "row", "turn", "its", "at", "still", "again", "right", "one", "two_there"] "law" s_law f (fun _ => True) F_law := fun cdv hcode A outer s H E hr C hT => by
  have nd := sc_law.nd
  have ax := ax_of (P := P) (w := w) (K := K) (mg := mg) (base := base) (N := ["script", "bag", "columns", "rows", "other", "form", "heads", "found", "row", "turn", "its", "at", "still", "again", "right", "one", "two_there"]) (qual := "law") (scope := defScope s_law) (f := f) (cdv := cdv) (A := A) (outer := outer) (s := s) (H := H) (E := E) hr (by decide) hN hgt rfl rfl
  exact (xb_cons (xs_set (i := 1) nd rfl (by first | exact Or.inl rfl | exact Or.inr rfl) (ev_callFH h__law_bag hT (hr.mono (by decide)) (by rfl) (pv 0)))
    (xb_cons (xs_set (i := 2) nd rfl (by first | exact Or.inl rfl | exact Or.inr rfl) (ev_op op_addA os_add ev_int (ev_callMH h__law_take hT (fun _ _ _ h => runM_len h) (hr.mono (by decide)) (by rfl) (ea_cons (ev_var (pv 1)) (ea_cons ev_int ea_nil)))))
    (xb_cons (xs_setLc (i := 3) (own := [("turn", 9)]) rfl nd rfl rfl (sw_true rfl rfl rfl rfl) (ei_rng1 (by rfl) m_range (ea_cons (ev_callMH h__law_take hT (fun _ _ _ h => runM_len h) (hr.mono (by decide)) (by rfl) (ea_cons (ev_var (pv 1)) (ea_cons ev_int ea_nil))) ea_nil)) (blkOk_by (by kernel_rfl)) (by decide) (fun B s H Ca cl fp => (eg_name (i := 9) nd rfl (by first | exact Or.inl rfl | exact Or.inr rfl))) (fun B s H Ca cl fp => ets_nil) (fun B s H Ca cl fp => (ev_ct call_tuple_of cs_tuple (by rfl) m_tuple boot_tupleX (ea_cons (ev_lc (own := [("turn", 9)]) rfl nd (ei_rng1 (by rfl) m_range (ea_cons (ev_var (pv 2)) ea_nil)) (blkOk_by (by kernel_rfl)) (by decide) (fun B s H Ca cl fp => (eg_name (i := 9) nd rfl (by first | exact Or.inl rfl | exact Or.inr rfl))) (fun B s H Ca cl fp => ets_nil) (fun B s H Ca cl fp => (ev_callMH h__law_number hT (fun _ _ _ h => runM_len h) (hr.mono (by decide)) (by rfl) (ea_cons (ev_var (pv 1)) ea_nil)))) ea_nil))))
    (xb_cons (xs_set (i := 4) nd rfl (by first | exact Or.inl rfl | exact Or.inr rfl) (ev_callMH h__law_otherwise hT (fun _ _ _ h => runM_len h) (hr.mono (by decide)) (by rfl) (ea_cons (ev_var (pv 1)) (ea_cons (ev_var (pv 3)) (ea_cons (ev_var (pv 2)) ea_nil)))))
    (xb_cons (xs_set (i := 5) nd rfl (by first | exact Or.inl rfl | exact Or.inr rfl) (ev_callH h_plain_form hT (fun _ _ h => runP_len h) (hr.mono (by decide)) (by rfl) (ea_cons (ev_if (et_cmp (op_eqX ax) os_eq (ev_callMH h__law_take hT (fun _ _ _ h => runM_len h) (hr.mono (by decide)) (by rfl) (ea_cons (ev_var (pv 1)) (ea_cons ev_int ea_nil))) ev_int) (ev_ct call_list_of cs_list (by rfl) m_list boot_listX (ea_cons (ev_var (pv 3)) ea_nil)) (ev_ct call_tuple_of cs_tuple (by rfl) m_tuple boot_tupleX (ea_cons (ev_var (pv 3)) ea_nil))) (ea_cons (ev_var (pv 2)) ea_nil))))
    (xb_cons (xs_set (i := 6) nd rfl (by first | exact Or.inl rfl | exact Or.inr rfl) (ev_callH h__law_shape hT (fun _ _ h => runP_len h) (hr.mono (by decide)) (by rfl) (ea_cons (ev_var (pv 5)) (ea_cons (ev_var (pv 2)) ea_nil))))
    (xb_cons (xs_if (et_w (ew_or (et_cmp op_isA os_is (ev_var (pv 6)) ev_non) (ew_or1 (et_not (et_truth (ev_isi (by rfl) m_isinstance (ev_var (pv 5)) (ty_name (by rfl) m_tuple boot_tupleX))))))) (xb_one (xs_ret ev_bl)) xb_nil)
    (xb_cons (xs_set (i := 7) nd rfl (by first | exact Or.inl rfl | exact Or.inr rfl) (ev_lst (ea_cons (ev_callH h_plain_form hT (fun _ _ h => runP_len h) (hr.mono (by decide)) (by rfl) (ea_cons (ev_ct call_list_of cs_list (by rfl) m_list boot_listX (ea_cons (ev_var (pv 4)) ea_nil)) (ea_cons (ev_var (pv 2)) ea_nil))) (ea_cons (ev_callH h_plain_form hT (fun _ _ h => runP_len h) (hr.mono (by decide)) (by rfl) (ea_cons (ev_ct call_tuple_of cs_tuple (by rfl) m_tuple boot_tupleX (ea_cons (ev_var (pv 4)) ea_nil)) (ea_cons (ev_var (pv 2)) ea_nil))) (ea_cons (ev_callH h_plain_form hT (fun _ _ h => runP_len h) (hr.mono (by decide)) (by rfl) (ea_cons (ev_var (pv 5)) (ea_cons (ev_var (pv 2)) ea_nil))) ea_nil)))))
    (xb_cons (xs_set (i := 7) nd rfl (by first | exact Or.inl rfl | exact Or.inr rfl) (ev_op op_addA os_add (ev_var (pv 7)) (ev_lst (ea_cons (ev_callH h_rank hT (fun _ _ h => runP_len h) (hr.mono (by decide)) (by rfl) (ea_cons (ev_ct call_list_of cs_list (by rfl) m_list boot_listX (ea_cons (ev_var (pv 3)) ea_nil)) (ea_cons (ev_var (pv 2)) ea_nil))) (ea_cons (ev_callH h_rank hT (fun _ _ h => runP_len h) (hr.mono (by decide)) (by rfl) (ea_cons (ev_ct call_tuple_of cs_tuple (by rfl) m_tuple boot_tupleX (ea_cons (ev_var (pv 4)) ea_nil)) (ea_cons (ev_var (pv 2)) ea_nil))) ea_nil)))))
    (xb_cons (xs_if (et_not (et_truth (ev_callH h__law_alike hT (fun _ _ h => runP_len h) (hr.mono (by decide)) (by rfl) (ea_cons (ev_var (pv 7)) (ea_cons (ev_op op_addA os_add (ev_op op_mulA os_mul (ev_lst (ea_cons (ev_var (pv 5)) ea_nil)) ev_int) (ev_op op_mulA os_mul (ev_lst (ea_cons (ev_cb cr_lenA cs_len (by rfl) m_len boot_lenX (ea_cons (ev_var (pv 5)) ea_nil)) ea_nil)) ev_int)) ea_nil))))) (xb_one (xs_ret ev_bl)) xb_nil)
    (xb_cons (xs_for PassesOwn.never rfl (ei_seq (ev_op op_addA os_add (ev_var (pv 3)) (ev_var (pv 4)))) (eg_name (i := 8) nd rfl (by first | exact Or.inl rfl | exact Or.inr rfl)) (xb_one (xs_if (et_not (et_truth (ev_callH h__law_made hT (fun _ _ h => runP_len h) (hr.mono (by decide)) (by rfl) (ea_cons (ev_var (pv 5)) (ea_cons (ev_var (pv 6)) (ea_cons (ev_var (pv 8)) ea_nil)))))) (xb_one (xs_ret ev_bl)) xb_nil)))
    (xb_cons (xs_for PassesOwn.never rfl (ei_seq (ev_var (pv 5))) (eg_name (i := 8) nd rfl (by first | exact Or.inl rfl | exact Or.inr rfl)) (xb_one (xs_if (et_w (ew_or (et_cmp op_notA os_isNot (ev_callH h_is_made_of hT (fun _ _ h => runP_len h) (hr.mono (by decide)) (by rfl) (ea_cons (ev_ct call_list_of cs_list (by rfl) m_list boot_listX (ea_cons (ev_var (pv 3)) ea_nil)) (ea_cons (ev_var (pv 2)) (ea_cons (ev_var (pv 8)) ea_nil)))) ev_bl) (ew_or1 (et_cmp op_notA os_isNot (ev_callH h_is_made_of hT (fun _ _ h => runP_len h) (hr.mono (by decide)) (by rfl) (ea_cons (ev_ct call_tuple_of cs_tuple (by rfl) m_tuple boot_tupleX (ea_cons (ev_var (pv 4)) ea_nil)) (ea_cons (ev_var (pv 2)) (ea_cons (ev_var (pv 8)) ea_nil)))) ev_bl)))) (xb_one (xs_ret ev_bl)) xb_nil)))
    (xb_cons (xs_for PassesOwn.never rfl (ei_rng1 (by rfl) m_range (ea_cons ev_int ea_nil)) (eg_name (i := 9) nd rfl (by first | exact Or.inl rfl | exact Or.inr rfl)) (xb_cons (xs_set (i := 8) nd rfl (by first | exact Or.inl rfl | exact Or.inr rfl) (ev_ct call_tuple_of cs_tuple (by rfl) m_tuple boot_tupleX (ea_cons (ev_op op_mulA os_mul (ev_lst (ea_cons ev_int ea_nil)) (ev_var (pv 2))) ea_nil)))
    (xb_cons (xs_for PassesOwn.never rfl (ei_seq (ev_var (pv 4))) (eg_name (i := 10) nd rfl (by first | exact Or.inl rfl | exact Or.inr rfl)) (xb_one (xs_set (i := 8) nd rfl (by first | exact Or.inl rfl | exact Or.inr rfl) (ev_callH h__law_sum hT (fun _ _ h => runP_len h) (hr.mono (by decide)) (by rfl) (ea_cons (ev_var (pv 8)) (ea_cons (ev_var (pv 10)) (ea_cons (ev_callMH h__law_some hT (fun _ _ _ h => runM_len h) (hr.mono (by decide)) (by rfl) (ea_cons (ev_var (pv 1)) (ea_cons (ev_lst (ea_cons ev_int (ea_cons ev_int (ea_cons (ev_un un_neg us_neg ev_int) (ea_cons ev_int ea_nil))))) ea_nil))) ea_nil)))))))
    (xb_cons (xs_if (et_cmp (op_eqX ax) os_eq (ev_callMH h__law_take hT (fun _ _ _ h => runM_len h) (hr.mono (by decide)) (by rfl) (ea_cons (ev_var (pv 1)) (ea_cons ev_int ea_nil))) ev_int) (xb_cons (xs_set (i := 11) nd rfl (by first | exact Or.inl rfl | exact Or.inr rfl) (ev_callMH h__law_take hT (fun _ _ _ h => runM_len h) (hr.mono (by decide)) (by rfl) (ea_cons (ev_var (pv 1)) (ea_cons (ev_var (pv 2)) ea_nil))))
    (xb_one (xs_set (i := 8) nd rfl (by first | exact Or.inl rfl | exact Or.inr rfl) (ev_op op_addA os_add (ev_op op_addA os_add (ev_sl (ev_var (pv 8)) eo_none (eo_some (ev_var (pv 11)))) (ev_tup (ea_cons (ev_op op_addA os_add (ev_ix ix_seq os_ix (ev_var (pv 8)) (ev_var (pv 11))) (ev_callMH h__law_some hT (fun _ _ _ h => runM_len h) (hr.mono (by decide)) (by rfl) (ea_cons (ev_var (pv 1)) (ea_cons (ev_lst (ea_cons ev_int (ea_cons (ev_un un_neg us_neg ev_int) (ea_cons ev_int ea_nil)))) ea_nil)))) ea_nil))) (ev_sl (ev_var (pv 8)) (eo_some (ev_op op_addA os_add (ev_var (pv 11)) ev_int)) eo_none))))) xb_nil)
    (xb_one (xs_if (et_not (et_truth (ev_callH h__law_alike hT (fun _ _ h => runP_len h) (hr.mono (by decide)) (by rfl) (ea_cons (ev_callH h_is_made_of hT (fun _ _ h => runP_len h) (hr.mono (by decide)) (by rfl) (ea_cons (ev_ct call_list_of cs_list (by rfl) m_list boot_listX (ea_cons (ev_var (pv 3)) ea_nil)) (ea_cons (ev_var (pv 2)) (ea_cons (ev_var (pv 8)) ea_nil)))) (ea_cons (ev_callH h__law_made hT (fun _ _ h => runP_len h) (hr.mono (by decide)) (by rfl) (ea_cons (ev_var (pv 5)) (ea_cons (ev_var (pv 6)) (ea_cons (ev_var (pv 8)) ea_nil)))) ea_nil))))) (xb_one (xs_ret ev_bl)) xb_nil))))))
    (xb_cons (xs_set (i := 12) nd rfl (by first | exact Or.inl rfl | exact Or.inr rfl) (ev_callH h_still_rows hT (fun _ _ h => runP_len h) (hr.mono (by decide)) (by rfl) (ea_cons (ev_ct call_list_of cs_list (by rfl) m_list boot_listX (ea_cons (ev_var (pv 3)) ea_nil)) (ea_cons (ev_var (pv 2)) ea_nil))))
    (xb_cons (xs_set (i := 13) nd rfl (by first | exact Or.inl rfl | exact Or.inr rfl) (ev_callH h_still_rows hT (fun _ _ h => runP_len h) (hr.mono (by decide)) (by rfl) (ea_cons (ev_var (pv 12)) (ea_cons (ev_var (pv 2)) ea_nil))))
    (xb_cons (xs_if (et_w (ew_or (et_cmp op_isA os_is (ev_callH h__law_shape hT (fun _ _ h => runP_len h) (hr.mono (by decide)) (by rfl) (ea_cons (ev_var (pv 12)) (ea_cons (ev_var (pv 2)) ea_nil))) ev_non) (ew_or (et_cmp (op_neX ax) os_ne (ev_cb cr_lenA cs_len (by rfl) m_len boot_lenX (ea_cons (ev_var (pv 12)) ea_nil)) (ev_op op_sub os_sub (ev_var (pv 2)) (ev_cb cr_lenA cs_len (by rfl) m_len boot_lenX (ea_cons (ev_var (pv 5)) ea_nil)))) (ew_or1 (et_cmp (op_neX ax) os_ne (ev_cb cr_lenA cs_len (by rfl) m_len boot_lenX (ea_cons (ev_var (pv 13)) ea_nil)) (ev_cb cr_lenA cs_len (by rfl) m_len boot_lenX (ea_cons (ev_var (pv 5)) ea_nil))))))) (xb_one (xs_ret ev_bl)) xb_nil)
    (xb_cons (xs_for PassesOwn.never rfl (ei_seq (ev_var (pv 12))) (eg_name (i := 8) nd rfl (by first | exact Or.inl rfl | exact Or.inr rfl)) (xb_one (xs_for PassesOwn.never rfl (ei_seq (ev_var (pv 3))) (eg_name (i := 10) nd rfl (by first | exact Or.inl rfl | exact Or.inr rfl)) (xb_cons (xs_set (i := 14) nd rfl (by first | exact Or.inl rfl | exact Or.inr rfl) (ev_cb (cr_sum rfl) cs_sum (by rfl) m_sum boot_sumX (ea_cons (ev_lc (own := [("one", 15), ("two_there", 16)]) rfl nd (ei_zi (by rfl) m_zip (ea_cons (ev_var (pv 8)) (ea_cons (ev_var (pv 10)) ea_nil))) (blkOk_by (by kernel_rfl)) (by decide) (fun B s H Ca cl fp => (eg_tup rfl (egs_cons (eg_name (i := 15) nd rfl (by first | exact Or.inl rfl | exact Or.inr rfl)) (egs_cons (eg_name (i := 16) nd rfl (by first | exact Or.inl rfl | exact Or.inr rfl)) egs_nil)))) (fun B s H Ca cl fp => ets_nil) (fun B s H Ca cl fp => (ev_op op_mulA os_mul (ev_var (pv 15)) (ev_var (pv 16))))) ea_nil)))
    (xb_one (xs_if (et_w (ew_or (et_cmp (op_neX ax) os_ne (ev_var (pv 14)) ev_int) (ew_or1 (et_not (et_truth (ev_callH h__law_alike hT (fun _ _ h => runP_len h) (hr.mono (by decide)) (by rfl) (ea_cons (ev_callH h_dot hT (fun _ _ h => runP_len h) (hr.mono (by decide)) (by rfl) (ea_cons (ev_var (pv 8)) (ea_cons (ev_var (pv 10)) ea_nil))) (ea_cons (ev_var (pv 14)) ea_nil)))))))) (xb_one (xs_ret ev_bl)) xb_nil))))))
    (xb_cons (xs_set (i := 6) nd rfl (by first | exact Or.inl rfl | exact Or.inr rfl) (ev_callH h__law_shape hT (fun _ _ h => runP_len h) (hr.mono (by decide)) (by rfl) (ea_cons (ev_var (pv 13)) (ea_cons (ev_var (pv 2)) ea_nil))))
    (xb_cons (xs_if (et_w (ew_or (et_cmp op_isA os_is (ev_var (pv 6)) ev_non) (ew_or1 (et_cmp (op_neX ax) os_ne (ev_lc (own := [("row", 8)]) rfl nd (ei_seq (ev_var (pv 3))) (blkOk_by (by kernel_rfl)) (by decide) (fun B s H Ca cl fp => (eg_name (i := 8) nd rfl (by first | exact Or.inl rfl | exact Or.inr rfl))) (fun B s H Ca cl fp => (ets_one (et_not (et_truth (ev_callH h__law_made hT (fun _ _ h => runP_len h) (hr.mono (by decide)) (by rfl) (ea_cons (ev_var (pv 13)) (ea_cons (ev_var (pv 6)) (ea_cons (ev_var (pv 8)) ea_nil)))))))) (fun B s H Ca cl fp => (ev_var (pv 8)))) (ev_lst ea_nil))))) (xb_one (xs_ret ev_bl)) xb_nil)
    (xb_one (xs_ret (ev_callH h__law_alike hT (fun _ _ h => runP_len h) (hr.mono (by decide)) (by rfl) (ea_cons (ev_lst (ea_cons (ev_callH h_still_rows hT (fun _ _ h => runP_len h) (hr.mono (by decide)) (by rfl) (ea_cons (ev_ct call_tuple_of cs_tuple (by rfl) m_tuple boot_tupleX (ea_cons (ev_var (pv 4)) ea_nil)) (ea_cons (ev_var (pv 2)) ea_nil))) (ea_cons (ev_callH h_still_rows hT (fun _ _ h => runP_len h) (hr.mono (by decide)) (by rfl) (ea_cons (ev_var (pv 13)) (ea_cons (ev_var (pv 2)) ea_nil))) ea_nil))) (ea_cons (ev_lst (ea_cons (ev_var (pv 12)) (ea_cons (ev_var (pv 12)) ea_nil))) ea_nil))))))))))))))))))))))))
theorem h_law (hN : base.NoSeer) (hgt : P.given.tree = none) (m_isinstance : mg "isinstance" = none) (m_len : mg "len" = none) (m_list : mg "list" = none) (m_range : mg "range" = none) (m_sum : mg "sum" = none) (m_tuple : mg "tuple" = none) (m_zip : mg "zip" = none) (h__law_alike : Has P w K mg base 42 "_law_alike" ["found", "right"] (spP K T 2 g__law_alike)) (h__law_bag : Has P w K mg base 42 "_law_bag" ["script"] (spF K T g__law_bag)) (h__law_made : Has P w K mg base 43 "_law_made" ["form", "heads", "row"] (spP K T 3 g__law_made)) (h__law_number : Has P w K mg base 44 "_law_number" ["bag"] (spM K T 1 g__law_number)) (h__law_otherwise : Has P w K mg base 44 "_law_otherwise" ["bag", "rows", "columns"] (spM K T 3 g__law_otherwise)) (h__law_shape : Has P w K mg base 42 "_law_shape" ["form", "columns"] (spP K T 2 g__law_shape)) (h__law_some : Has P w K mg base 43 "_law_some" ["bag", "things"] (spM K T 2 g__law_some)) (h__law_sum : Has P w K mg base 42 "_law_sum" ["one", "other", "times"] (spP K T 3 g__law_sum)) (h__law_take : Has P w K mg base 42 "_law_take" ["bag", "many"] (spM K T 2 g__law_take)) (h_dot : Has P w K mg base 42 "dot" ["one", "other"] (spP K T 2 g_dot)) (h_is_made_of : Has P w K mg base 46 "is_made_of" ["rows", "columns", "row"] (spP K T 3 g_is_made_of)) (h_plain_form : Has P w K mg base 45 "plain_form" ["rows", "columns"] (spP K T 2 g_plain_form)) (h_rank : Has P w K mg base 46 "rank" ["rows", "columns"] (spP K T 2 g_rank)) (h_still_rows : Has P w K mg base 46 "still_rows" ["rows", "many"] (spP K T 2 g_still_rows)) {f : Addr} {fd : FuncData} (Fu : FunC K "law" "law" s_law f fd (fun _ => True)) (hm : mg "law" = some (.ref f)) : Has P w K mg base 47 "law" ["script"] (spS K T g_law) :=
  ⟨f, fd, fn_S Fu sc_law (by decide) (b_law hN hgt m_isinstance m_len m_list m_range m_sum m_tuple m_zip h__law_alike h__law_bag h__law_made h__law_number h__law_otherwise h__law_shape h__law_some h__law_sum h__law_take h_dot h_is_made_of h_plain_form h_rank h_still_rows), hm, Fu.kp, Fu.bind (fun _ _ _ _ _ _ us hl => match us, hl with | [_], _ => rfl)⟩
end
end K52
set_option Elab.async false
set_option linter.all false
set_option maxRecDepth 100000
set_option maxHeartbeats 1000000
/-! Reckoning with the meanings: comprehensions, loops. -/
namespace Sm
open PySem PySem.Spec L2
/-- a comprehension without a test -/
theorem lcF_map {α : Type} {g : Tg} {c : EvB} {f : Ev} {vs : List Nat} {env : Env'} (A F : α → D) : ∀ (xs : List α), (∀ x ∈ xs, ∃ e1 e2 r e3 e4, g (A x) env = some e1 ∧ c e1 = some (true, e2) ∧ f e2 = some (r, e3) ∧ frz e3 r = some (F x, e4) ∧ wipeE e4 vs = env) → lcF g c f vs (xs.map A) env = some (xs.map F, env)
  | [], _ => rfl
  | x :: xs, h => by
    obtain ⟨e1, e2, r, e3, e4, h1, h2, h3, h4, h5⟩ := h x List.mem_cons_self
    have ih := lcF_map A F xs fun x' hd => h x' (List.mem_cons_of_mem _ hd)
    simp only [List.map_cons, lcF, h1, h2, h3, h4, h5, ih, Option.bind_some, if_true, Option.map_some]
/-- a comprehension with a test -/
theorem lcF_filter {α : Type} {g : Tg} {c : EvB} {f : Ev} {vs : List Nat} {env : Env'} (A F : α → D) (p : α → Bool) : ∀ (xs : List α), (∀ x ∈ xs, ∃ e1 e2, g (A x) env = some e1 ∧ c e1 = some (p x, e2) ∧ (p x = true → ∃ r e3 e4, f e2 = some (r, e3) ∧ frz e3 r = some (F x, e4) ∧ wipeE e4 vs = env) ∧ (p x = false → wipeE e2 vs = env)) →
    lcF g c f vs (xs.map A) env = some ((xs.filter p).map F, env)
  | [], _ => rfl
  | x :: xs, h => by
    obtain ⟨e1, e2, h1, h2, h3, h4⟩ := h x List.mem_cons_self
    have ih := lcF_filter A F p xs fun x' hd => h x' (List.mem_cons_of_mem _ hd)
    cases hp : p x with
    | true =>
      obtain ⟨r, e3, e4, h5, h6, h7⟩ := h3 hp
      rw [hp] at h2
      simp only [List.map_cons, lcF, h1, h2, h5, h6, h7, ih, Option.bind_some, if_true, Option.map_some, List.filter_cons_of_pos hp]
    | false =>
      rw [hp] at h2
      rw [List.filter_cons_of_neg (by rw [hp]; exact Bool.false_ne_true)]
      simp only [List.map_cons, lcF, h1, h2, Option.bind_some, Bool.false_eq_true, if_false, h4 hp, ih]
/-- a loop that goes to its end -/
theorem forF_rel {g : Tg} {F : Ex} (I : Nat → Env' → Prop) : ∀ (ds : List D) (k : Nat) (env : Env'), I k env → (∀ j env d, I (k + j) env → ds[j]? = some d → ∃ e env', g d env = some e ∧ (F e = some (.nx, env') ∨ F e = some (.ct, env')) ∧ I (k + j + 1) env') → ∃ env', forF g F ds env = some (.nx, env') ∧ I (k + ds.length) env'
  | [], k, env, h, _ => ⟨env, rfl, h⟩
  | d :: ds, k, env, h, hs => by
    obtain ⟨e, env1, h1, h2, h3⟩ := hs 0 env d h rfl
    obtain ⟨env2, h4, h5⟩ := forF_rel I ds (k + 1) env1 h3 fun j env' d' hI hd => by
      have := hs (j + 1) env' d' (by rw [show k + (j + 1) = k + 1 + j by omega]; exact hI) hd
      rw [show k + (j + 1) + 1 = k + 1 + j + 1 by omega] at this
      exact this
    refine ⟨env2, ?_, by rw [List.length_cons, show k + (ds.length + 1) = k + 1 + ds.length by omega]; exact h5⟩
    rcases h2 with h2 | h2 <;> simp only [forF, h1, h2, h4, Option.bind_some]
theorem for_ok {it : EvL} {g : Tg} {F : Ex} {env env1 : Env'} {ds : List D} (hi : it env = some (ds, env1)) (I : Nat → Env' → Prop) (h0 : I 0 env1) (hs : ∀ j env d, I j env → ds[j]? = some d → ∃ e env', g d env = some e ∧ (F e = some (.nx, env') ∨ F e = some (.ct, env')) ∧ I (j + 1) env') :
    ∃ env', xFor it g F env = some (.nx, env') ∧ I ds.length env' := by
  obtain ⟨env', h1, h2⟩ := forF_rel I ds 0 env1 h0 fun j env d hI hd => by
    rw [Nat.zero_add] at hI ⊢
    exact hs j env d hI hd
  refine ⟨env', ?_, by rw [Nat.zero_add] at h2; exact h2⟩
  simp only [xFor, hi, Option.bind_some, h1]
/-- a loop that may answer on its way -/
theorem forF_ret {g : Tg} {F : Ex} (I : Nat → Env' → Prop) (R : Nat → D → Env' → Prop) : ∀ (ds : List D) (k : Nat) (env : Env'), I k env → (∀ j env d, I (k + j) env → ds[j]? = some d → ∃ e, g d env = some e ∧ ((∃ env', (F e = some (.nx, env') ∨ F e = some (.ct, env')) ∧ I (k + j + 1) env') ∨ ∃ r env', F e = some (.ret r, env') ∧ R (k + j) r env')) →
    (∃ env', forF g F ds env = some (.nx, env') ∧ I (k + ds.length) env') ∨ ∃ j r env', j < ds.length ∧ forF g F ds env = some (.ret r, env') ∧ R (k + j) r env'
  | [], k, env, h, _ => .inl ⟨env, rfl, h⟩
  | d :: ds, k, env, h, hs => by
    obtain ⟨e, h1, h2⟩ := hs 0 env d h rfl
    rcases h2 with ⟨env1, h2, h3⟩ | ⟨r, env1, h2, h3⟩
    · have ih := forF_ret I R ds (k + 1) env1 h3 fun j env' d' hI hd => by
        have := hs (j + 1) env' d' (by rw [show k + (j + 1) = k + 1 + j by omega]; exact hI) hd
        rw [show k + (j + 1) + 1 = k + 1 + j + 1 by omega, show k + (j + 1) = k + 1 + j by omega] at this
        exact this
      rcases ih with ⟨env2, h4, h5⟩ | ⟨j, r, env2, h6, h4, h5⟩
      · refine .inl ⟨env2, ?_, by rw [List.length_cons, show k + (ds.length + 1) = k + 1 + ds.length by omega]; exact h5⟩
        rcases h2 with h2 | h2 <;> simp only [forF, h1, h2, h4, Option.bind_some]
      · refine .inr ⟨j + 1, r, env2, by simp; omega, ?_, by rw [show k + (j + 1) = k + 1 + j by omega]; exact h5⟩
        rcases h2 with h2 | h2 <;> simp only [forF, h1, h2, h4, Option.bind_some]
    · refine .inr ⟨0, r, env1, by simp, ?_, h3⟩
      simp only [forF, h1, h2, Option.bind_some]
@[simp] theorem u_eC (d : D) {env : _} : eC d env = (some (.val d, env)) := rfl
@[simp] theorem u_eVar (i : Nat) {env : _} : eVar i env = (match env[i]? with
  | some (.val d) => some (.val d, env)
  | some (.own _ _) => some (.var i, env)
  | some (.scr _) => some (.var i, env)
  | _ => none) := rfl
@[simp] theorem u_eOp (p : D → D → Option R) (f g : Ev) {env : Env'} : eOp p f g env = ((f env).bind fun a => (g a.2).bind fun b => (deref b.2 a.1.fz).bind fun x => (deref b.2 b.1).bind fun y => (p x y).map fun r => (r, b.2)) := rfl
@[simp] theorem u_eIsi (ns : List String) (f : Ev) {env : Env'} : eIsi ns f env = eUn (isiT ns) f env := rfl
@[simp] theorem u_eUn (p : D → Option R) (f : Ev) {env : _} : eUn p f env = ((f env).bind fun a => (deref a.2 a.1).bind fun x => (p x).map fun r => (r, a.2)) := rfl
@[simp] theorem u_eCb (p : List D → Option R) (a : EvA) {env : Env'} : eCb p a env = ((a env).bind fun b => (derefL b.2 b.1).bind fun ds => (p ds).map fun r => (r, b.2)) := rfl
@[simp] theorem u_aNil {env : _} : aNil  env = (some ([], env)) := rfl
@[simp] theorem u_aCons (f : Ev) (g : EvA) {env : _} : aCons f g env = ((f env).bind fun a => (g a.2).map fun b => (a.1.fz :: b.1, b.2)) := rfl
@[simp] theorem u_aStar (f : Ev) (g : EvA) {env : _} : aStar f g env = ((f env).bind fun a => (frz a.2 a.1).bind fun c => match c.1 with
  | .list ds => (g c.2).map fun b => (ds.map R.val ++ b.1, b.2)
  | .tuple ds => (g c.2).map fun b => (ds.map R.val ++ b.1, b.2)
  | _ => none) := rfl
@[simp] theorem u_eTup (a : EvA) {env : _} : eTup a env = ((a env).bind fun b => (frzL b.2 b.1).bind fun c => if c.1.length ≤ 1000000 then some (.val (.tuple c.1), c.2) else none) := rfl
@[simp] theorem u_eLst (a : EvA) {env : _} : eLst a env = ((a env).bind fun b => (frzL b.2 b.1).bind fun c => if c.1.length ≤ 1000000 then some (.fr (.list c.1), c.2) else none) := rfl
@[simp] theorem u_eSl (f : Ev) (lo hi : EvO) {env : _} : eSl f lo hi env = ((f env).bind fun a => (lo a.2).bind fun l => (hi l.2).bind fun h => (deref h.2 a.1.fz).bind fun d => (pSl d l.1 h.1).map fun r => (r, h.2)) := rfl
@[simp] theorem u_oNone {env : _} : oNone  env = (some (none, env)) := rfl
@[simp] theorem u_oSome (f : Ev) {env : _} : oSome f env = ((f env).bind fun a => match a.1 with
  | .val (.int i) => some (some i, a.2)
  | _ => none) := rfl
@[simp] theorem u_eScr (i : Nat) (hi : EvO) {env : _} : eScr i hi env = ((hi env).bind fun h => match env[i]? with
  | some (.scr ns) => some (.fr (.list ((cutG ns none h.1).map PyData.int)), h.2)
  | _ => none) := rfl
@[simp] theorem u_eRev (f : Ev) {env : _} : eRev f env = ((f env).bind fun a => match deref a.2 a.1 with
  | some (.list ds) => some (.fr (.list ds.reverse), a.2)
  | _ => none) := rfl
@[simp] theorem u_xSeq (F G : Ex) {env : _} : xSeq F G env = ((F env).bind fun a => match a.1 with
  | .nx => G a.2
  | .ret d => some (.ret d, a.2)
  | .bk => some (.bk, a.2)
  | .ct => some (.ct, a.2)) := rfl
@[simp] theorem u_xSet (i : Nat) (f : Ev) {env : _} : xSet i f env = ((f env).bind fun a => (stoR a.2 a.1).bind fun b => if i < b.2.length then some (.nx, b.2.set i b.1) else none) := rfl
@[simp] theorem u_xIf (c : EvB) (F G : Ex) {env : _} : xIf c F G env = ((c env).bind fun a => if a.1 = true then F a.2 else G a.2) := rfl
@[simp] theorem u_xRet (f : Ev) {env : _} : xRet f env = ((f env).bind fun a => (frz a.2 a.1).map fun b => (.ret b.1, b.2)) := rfl
@[simp] theorem u_xRetN {env : _} : xRetN  env = (some (.ret .none, env)) := rfl
@[simp] theorem u_xEx (f : Ev) {env : _} : xEx f env = ((f env).map fun a => (.nx, a.2)) := rfl
@[simp] theorem u_xAsg (g : Tg) (f : Ev) {env : _} : xAsg g f env = ((f env).bind fun a => (frz a.2 a.1).bind fun b => (g b.1 b.2).map fun c => (.nx, c)) := rfl
@[simp] theorem u_xPar (i j : Nat) (f g : Ev) {env : _} : xPar i j f g env = ((f env).bind fun a => (stoR a.2 a.1).bind fun s => (g s.2).bind fun b => (stoR b.2 b.1).bind fun t =>
  if i ≠ j ∧ i < t.2.length ∧ j < t.2.length then some (.nx, (t.2.set i s.1).set j t.1) else none) := rfl
@[simp] theorem u_xAug (i : Nat) (h : Int → Int → Int) (f : Ev) {env : _} : xAug i h f env = (match env[i]? with
  | some (.val (.int a)) => (f env).bind fun r => match r.1 with
    | .val (.int b) => if i < r.2.length then some (.nx, r.2.set i (.val (.int (h a b)))) else none
    | _ => none
  | _ => none) := rfl
@[simp] theorem u_xAugIx (i : Nat) (fi : Ev) (h : Int → Int → Int) (f : Ev) {env : _} : xAugIx i fi h f env = (match env[i]? with
  | some (.own _ _) => (fi env).bind fun r => match r.1 with
    | .val (.int k) => match r.2[i]? with
      | some (.own _ (.list ds)) => match atI ds k with
        | some (.int a) => (f r.2).bind fun s => match s.1 with
          | .val (.int b) => match s.2[i]? with
            | some (.own p (.list es)) => (ixN es.length k).map fun j => (.nx, s.2.set i (.own p (.list (es.set j (.int (h a b))))))
            | _ => none
          | _ => none
        | _ => none
      | _ => none
    | _ => none
  | _ => none) := rfl
@[simp] theorem u_bE (f : Ev) {env : _} : bE f env = ((f env).bind fun a => match a.1 with
  | .val (.bool b) => some (b, a.2)
  | _ => none) := rfl
@[simp] theorem u_bV (f : Ev) {env : _} : bV f env = ((f env).bind fun a => (deref a.2 a.1).bind fun d => (truthD d).map fun b => (b, a.2)) := rfl
@[simp] theorem u_bNot (c : EvB) {env : _} : bNot c env = ((c env).map fun a => (!a.1, a.2)) := rfl
@[simp] theorem u_bAnd (c d : EvB) {env : _} : bAnd c d env = ((c env).bind fun a => if a.1 = true then d a.2 else some (false, a.2)) := rfl
@[simp] theorem u_bOr (c d : EvB) {env : _} : bOr c d env = ((c env).bind fun a => if a.1 = true then some (true, a.2) else d a.2) := rfl
@[simp] theorem u_bYes {env : _} : bYes  env = (some (true, env)) := rfl
@[simp] theorem u_eIf (c : EvB) (f g : Ev) {env : _} : eIf c f g env = ((c env).bind fun a => if a.1 = true then f a.2 else g a.2) := rfl
@[simp] theorem u_eChain (p p' : D → D → Option R) (f g h : Ev) {env : _} : eChain p p' f g h env = ((f env).bind fun a => (g a.2).bind fun b => (deref b.2 a.1.fz).bind fun x => (deref b.2 b.1.fz).bind fun y => (p x y).bind fun r => match r with
  | .val (.bool true) => (h b.2).bind fun c => (deref c.2 b.1.fz).bind fun y' => (deref c.2 c.1).bind fun w => (p' y' w).map fun r' => (r', c.2)
  | .val (.bool false) => some (.val (.bool false), b.2)
  | _ => none) := rfl
@[simp] theorem u_eAnd (f g : Ev) {env : _} : eAnd f g env = ((f env).bind fun a => match a.1 with
  | .val (.bool true) => g a.2
  | .val (.bool false) => some (.val (.bool false), a.2)
  | _ => none) := rfl
@[simp] theorem u_eOr (f g : Ev) {env : _} : eOr f g env = ((f env).bind fun a => match a.1 with
  | .val (.bool true) => some (.val (.bool true), a.2)
  | .val (.bool false) => g a.2
  | _ => none) := rfl
@[simp] theorem u_eNot (f : Ev) {env : _} : eNot f env = ((f env).bind fun a => match a.1 with
  | .val (.bool b) => some (.val (.bool (!b)), a.2)
  | _ => none) := rfl
@[simp] theorem u_gN (i : Nat) {d : _} {env : _} : gN i d env = (if i < env.length then some (env.set i (.val d)) else none) := rfl
@[simp] theorem u_gNil {ds : _} {env : _} : gNil  ds env = (match ds with
  | [] => some env
  | _ => none) := rfl
@[simp] theorem u_gCons (g : Tg) (gs : Tgs) {ds : _} {env : _} : gCons g gs ds env = (match ds with
  | [] => none
  | d :: r => (g d env).bind fun e => gs r e) := rfl
@[simp] theorem u_gT (n : Nat) (gs : Tgs) {d : _} {env : _} : gT n gs d env = (match d with
  | .tuple ds => if ds.length = n then gs ds env else none
  | _ => none) := rfl
@[simp] theorem u_gIx (i : Nat) (fi : Ev) {d : _} {env : _} : gIx i fi d env = (match env[i]? with
  | some (.own _ _) => (fi env).bind fun a => match a.1 with
    | .val (.int k) => match a.2[i]? with
      | some (.own p (.list ds)) => (ixN ds.length k).map fun j => a.2.set i (.own p (.list (ds.set j d)))
      | _ => none
    | _ => none
  | _ => none) := rfl
@[simp] theorem u_xNx {env : _} : xNx  env = (some (.nx, env)) := rfl
@[simp] theorem u_xBrk {env : _} : xBrk  env = (some (.bk, env)) := rfl
@[simp] theorem u_xCnt {env : _} : xCnt  env = (some (.ct, env)) := rfl
@[simp] theorem u_eMeth (i : Nat) (pm : List D → List D → Option (D × List D)) (a : EvA) {env : Env'} : eMeth i pm a env = (match env[i]? with
  | some (.own _ _) => (a env).bind fun b => (frzL b.2 b.1).bind fun c => match c.2[i]? with
    | some (.own p (.list ds)) => (pm ds c.1).map fun r => (.val r.1, c.2.set i (.own p (.list r.2)))
    | _ => none
  | _ => none) := rfl
@[simp] theorem u_eCall (g : List D → Option D) (a : EvA) {env : Env'} : eCall g a env = ((a env).bind fun b => (frzL b.2 b.1).bind fun c => (g c.1).map fun r => (.val r, c.2)) := rfl
@[simp] theorem u_eCallM (g : D → List D → Option (D × D)) (a : EvA) {env : _} : eCallM g a env = ((a env).bind fun b => match b.1 with
  | .var i :: rs => (frzL b.2 rs).bind fun c => match c.2[i]? with
    | some (.own p d) => (g d c.1).map fun r => (.val r.1, c.2.set i (.own p r.2))
    | _ => none
  | _ => none) := rfl
@[simp] theorem u_eCallS (g : List Int → Option D) (i : Nat) {env : _} : eCallS g i env = (match env[i]? with
  | some (.scr ns) => (g ns).map fun r => (.val r, env)
  | _ => none) := rfl
@[simp] theorem u_lSeq (f : Ev) {env : _} : lSeq f env = ((f env).bind fun a => (frz a.2 a.1).bind fun b => match b.1 with
  | .list ds => some (ds, b.2)
  | .tuple ds => some (ds, b.2)
  | _ => none) := rfl
theorem u_lRng1 (a : EvA) {env : _} : lRng1 a env = ((a env).bind fun b => match b.1 with
  | [.val (.int j)] => if -1000000 < j ∧ j < 1000000 then some (rngD 0 j.toNat, b.2) else none
  | _ => none) := rfl
theorem u_lRng2 (a : EvA) {env : _} : lRng2 a env = ((a env).bind fun b => match b.1 with
  | [.val (.int i), .val (.int j)] => if -1000000 < i ∧ i < 1000000 ∧ -1000000 < j ∧ j < 1000000 then some (rngD i (j - i).toNat, b.2) else none
  | _ => none) := rfl
@[simp] theorem u_lEn (a : EvA) {env : _} : lEn a env = ((a env).bind fun b => (frzL b.2 b.1).bind fun c => match c.1 with
  | [d] => (seqOf d).map fun ds => (enD ds, c.2)
  | _ => none) := rfl
@[simp] theorem u_lZi (a : EvA) {env : _} : lZi a env = ((a env).bind fun b => (frzL b.2 b.1).bind fun c => match c.1 with
  | [d, e] => (seqOf d).bind fun ds => (seqOf e).map fun es => (ziD ds es, c.2)
  | _ => none) := rfl
theorem u_eLc (vs : List Nat) (it : EvL) (g : Tg) (c : EvB) (f : Ev) {env : _} : eLc vs it g c f env = ((it env).bind fun a => (lcF g c f vs a.1 (wipeE a.2 vs)).bind fun b => if b.1.length ≤ 1000000 then some (.fr (.list b.1), b.2) else none) := rfl
@[simp] theorem u_eLz (a : EvA) {env : _} : eLz a env = ((a env).bind fun b => (frzL b.2 b.1).bind fun c => match c.1 with
  | [d, e] => (seqOf d).bind fun ds => (seqOf e).bind fun es => if (ds.zip es).length ≤ 1000000 then some (.fr (.list (ziD ds es)), c.2) else none
  | _ => none) := rfl
@[simp] theorem u_frzL0 {env : Env'} : frzL env [] = some ([], env) := rfl
@[simp] theorem u_frzL1 {env : Env'} {r : R} {rs : List R} : frzL env (r :: rs) = ((frz env r).bind fun a => (frzL a.2 rs).map fun b => (a.1 :: b.1, b.2)) := rfl
@[simp] theorem u_derefL0 {env : Env'} : derefL env [] = some [] := rfl
@[simp] theorem u_derefL1 {env : Env'} {r : R} {rs : List R} : derefL env (r :: rs) = ((deref env r).bind fun a => (derefL env rs).map fun b => a :: b) := rfl
@[simp] theorem u_frz1 {env : Env'} {d : D} : frz env (.val d) = some (d, env) := rfl
@[simp] theorem u_frz2 {env : Env'} {d : D} : frz env (.fr d) = some (d, env) := rfl
@[simp] theorem u_frz3 {env : Env'} {i : Nat} : frz env (.var i) = (match env[i]? with
  | some (.val d) => some (d, env)
  | some (.own _ d) => some (d, env.set i (.val d))
  | _ => none) := rfl
@[simp] theorem u_deref1 {env : Env'} {d : D} : deref env (.val d) = some d := rfl
@[simp] theorem u_deref2 {env : Env'} {d : D} : deref env (.fr d) = some d := rfl
@[simp] theorem u_deref3 {env : Env'} {i : Nat} : deref env (.var i) = (match env[i]? with
  | some (.val d) => some d
  | some (.own _ d) => some d
  | _ => none) := rfl
@[simp] theorem u_fz1 {d : D} : (R.val d).fz = .val d := rfl
@[simp] theorem u_fz2 {d : D} : (R.fr d).fz = .val d := rfl
@[simp] theorem u_fz3 {i : Nat} : (R.var i).fz = .var i := rfl
@[simp] theorem u_sto1 {env : Env'} {d : D} : stoR env (.val d) = some (.val d, env) := rfl
@[simp] theorem u_sto2 {env : Env'} {d : D} : stoR env (.fr d) = some (.own false d, env) := rfl
@[simp] theorem u_sto3 {env : Env'} {i : Nat} : stoR env (.var i) = ((frz env (.var i)).map fun a => (.val a.1, a.2)) := rfl
@[simp] theorem u_wipe0 {env : Env'} : wipeE env [] = env := rfl
@[simp] theorem u_wipe1 {env : Env'} {v : Nat} {vs : List Nat} : wipeE env (v :: vs) = (wipeE env vs).set v .no := rfl
@[simp] theorem u_pAdd1 {i j : Int} : pAdd (.int i) (.int j) = some (.val (.int (i + j))) := rfl
@[simp] theorem u_pAdd3 {xs ys : List D} : pAdd (.list xs) (.list ys) = if xs.length + ys.length ≤ 1000000 then some (.fr (.list (xs ++ ys))) else none := rfl
@[simp] theorem u_pAdd4 {xs ys : List D} : pAdd (.tuple xs) (.tuple ys) = if xs.length + ys.length ≤ 1000000 then some (.val (.tuple (xs ++ ys))) else none := rfl
@[simp] theorem u_pSub {i j : Int} : pSub (.int i) (.int j) = some (.val (.int (i - j))) := rfl
@[simp] theorem u_pMul {i j : Int} : pMul (.int i) (.int j) = if CMulG i j then some (.val (.int (i * j))) else none := rfl
@[simp] theorem u_pMulL {xs : List D} {k : Int} : pMul (.list xs) (.int k) = if k < 1000000 ∧ -1000000 < k ∧ xs.length * k.toNat ≤ 1000000 then some (.fr (.list (List.replicate k.toNat xs).flatten)) else none := rfl
@[simp] theorem u_pFdiv {i j : Int} : pFdiv (.int i) (.int j) = if 0 < j then some (.val (.int (i / j))) else none := rfl
@[simp] theorem u_pMod {i j : Int} : pMod (.int i) (.int j) = if 0 < j then some (.val (.int (i % j))) else none := rfl
@[simp] theorem u_pPow {i j : Int} : pPow (.int i) (.int j) = if 0 ≤ j ∧ j ≤ 1000000 ∧ i.natAbs < 1000000 then some (.val (.int (i ^ j.toNat))) else none := rfl
@[simp] theorem u_pNeg {i : Int} : pNeg (.int i) = some (.val (.int (-i))) := rfl
@[simp] theorem u_pCmpI {g : Int → Int → Bool} {i j : Int} : pCmpI g (.int i) (.int j) = some (.val (.bool (g i j))) := rfl
@[simp] theorem u_pIxL {ds : List D} {i : Int} : pIx (.list ds) (.int i) = (atI ds i).map R.val := rfl
@[simp] theorem u_pIxT {ds : List D} {i : Int} : pIx (.tuple ds) (.int i) = (atI ds i).map R.val := rfl
@[simp] theorem u_pSlL {ds : List D} {lo hi : Option Int} : pSl (.list ds) lo hi = some (.fr (.list (cutG ds lo hi))) := rfl
@[simp] theorem u_pSlT {ds : List D} {lo hi : Option Int} : pSl (.tuple ds) lo hi = some (.val (.tuple (cutG ds lo hi))) := rfl
@[simp] theorem u_pLenL {ds : List D} : pLen [.list ds] = some (.val (.int ds.length)) := rfl
@[simp] theorem u_pLenT {ds : List D} : pLen [.tuple ds] = some (.val (.int ds.length)) := rfl
@[simp] theorem u_pAbs {i : Int} : pAbs [.int i] = some (.val (.int (if i < 0 then -i else i))) := rfl
@[simp] theorem u_pInt1 {i : Int} : pInt [.int i] = some (.val (.int i)) := rfl
@[simp] theorem u_pInt2 {b : Bool} : pInt [.bool b] = some (.val (.int (if b then 1 else 0))) := rfl
@[simp] theorem u_pTupL {ds : List D} : pTuple [.list ds] = some (.val (.tuple ds)) := rfl
@[simp] theorem u_pTupT {ds : List D} : pTuple [.tuple ds] = some (.val (.tuple ds)) := rfl
@[simp] theorem u_pLstL {ds : List D} : pList [.list ds] = some (.fr (.list ds)) := rfl
@[simp] theorem u_pLstT {ds : List D} : pList [.tuple ds] = some (.fr (.list ds)) := rfl
@[simp] theorem u_pSum {ns : List Int} : pSum [.list (ns.map PyData.int)] = some (.val (.int ns.sum)) := by
  unfold pSum
  simp only [intsOf_map]
  rfl
@[simp] theorem u_pAll {bs : List Bool} : pAll [.list (bs.map PyData.bool)] = some (.val (.bool (bs.all id))) := by
  unfold pAll
  simp only [boolsOf_map]
  rfl
@[simp] theorem u_truthB {b : Bool} : truthD (.bool b) = some b := rfl
@[simp] theorem u_truthI {i : Int} : truthD (.int i) = some (i != 0) := rfl
@[simp] theorem u_seqL {ds : List D} : seqOf (.list ds) = some ds := rfl
@[simp] theorem u_seqT {ds : List D} : seqOf (.tuple ds) = some ds := rfl
@[simp] theorem u_pIsN {d : D} : pIs d .none = some (.val (.bool (isNone d))) := by cases d <;> rfl
@[simp] theorem u_pIsNotB {a b : Bool} : pIsNot (.bool a) (.bool b) = some (.val (.bool (!decide (a = b)))) := rfl
theorem rngD_nat (n : Nat) : rngD 0 n = (List.range n).map fun i => PyData.int (i : Nat) := by
  unfold rngD
  simp
theorem rngI1 {a : EvA} {env e : Env'} {j : Int} (h : a env = some ([.val (.int j)], e)) (h1 : 0 ≤ j) (h2 : j < 1000000) : lRng1 a env = some (rngD 0 j.toNat, e) := by
  have hc : -1000000 < j ∧ j < 1000000 := ⟨by omega, h2⟩
  simp only [lRng1, h, Option.bind_some, hc, and_self, if_true]
theorem rngI2 {a : EvA} {env e : Env'} {i j : Int} (h : a env = some ([.val (.int i), .val (.int j)], e)) (h1 : 0 ≤ i) (h2 : i < 1000000) (h3 : 0 ≤ j) (h4 : j < 1000000) : lRng2 a env = some (rngD i (j - i).toNat, e) := by
  have hc : -1000000 < i ∧ i < 1000000 ∧ -1000000 < j ∧ j < 1000000 := ⟨by omega, h2, by omega, h4⟩
  simp only [lRng2, h, Option.bind_some, hc, and_self, if_true]
theorem rng1 {a : EvA} {env e : Env'} {n : Nat} (h : a env = some ([.val (.int (n : Nat))], e)) (hn : n < 1000000) : lRng1 a env = some ((List.range n).map fun i => PyData.int (i : Nat), e) := by
  rw [rngI1 h (Int.natCast_nonneg n) (by omega), Int.toNat_natCast, rngD_nat]
theorem rng2 {a : EvA} {env e : Env'} {m n : Nat} (h : a env = some ([.val (.int (m : Nat)), .val (.int (n : Nat))], e)) (hm : m < 1000000) (hn : n < 1000000) : lRng2 a env = some ((List.range (n - m)).map fun i => PyData.int ((m + i : Nat)), e) := by
  rw [rngI2 h (Int.natCast_nonneg m) (by omega) (Int.natCast_nonneg n) (by omega), show ((n : Int) - (m : Int)).toNat = n - m by omega]
  unfold rngD
  simp
theorem eLc_ok {vs : List Nat} {it : EvL} {g : Tg} {c : EvB} {f : Ev} {env env1 env2 env3 : Env'} {ds out : List D} (hi : it env = some (ds, env1)) (hw : wipeE env1 vs = env2) (hl : lcF g c f vs ds env2 = some (out, env3)) (hz : out.length ≤ 1000000) : eLc vs it g c f env = some (.fr (.list out), env3) := by
  subst hw
  simp only [eLc, hi, Option.bind_some, hl, hz, if_true]
theorem runP_ok {n m : Nat} {F : Ex} {ds : List D} {r : D} {e : Env'} (hl : ds.length = m) (h : F (ds.map Sl.val ++ List.replicate (n - m) Sl.no) = some (.ret r, e)) : runP n m F ds = some r := by
  unfold runP
  rw [if_pos hl, h]
  rfl
theorem runM_ok {n m : Nat} {F : Ex} {c c' : D} {ds : List D} {r : D} {e : Env'} (hl : ds.length + 1 = m) (h : F (Sl.own true c :: (ds.map Sl.val ++ List.replicate (n - m) Sl.no)) = some (.ret r, e)) (he : e[0]? = some (Sl.own true c')) : runM n m F c ds = some (r, c') := by
  unfold runM
  rw [if_pos hl, h]
  simp only [retOf, Option.bind_some, he]
theorem xSeq_nx {F G : Ex} {env e1 : Env'} {r : Option (Fl × Env')} (h1 : F env = some (.nx, e1)) (h2 : G e1 = r) : xSeq F G env = r := by
  simp only [xSeq, h1, Option.bind_some, h2]
theorem xSeq_ret {F G : Ex} {env e1 : Env'} {d : D} (h1 : F env = some (.ret d, e1)) : xSeq F G env = some (.ret d, e1) := by
  simp only [xSeq, h1, Option.bind_some]
theorem xSeq_ct {F G : Ex} {env e1 : Env'} (h1 : F env = some (.ct, e1)) : xSeq F G env = some (.ct, e1) := by
  simp only [xSeq, h1, Option.bind_some]
theorem xSet_ok {i : Nat} {f : Ev} {env e1 e2 : Env'} {r : R} {sl : Sl} (h1 : f env = some (r, e1)) (h2 : stoR e1 r = some (sl, e2)) (hi : i < e2.length) : xSet i f env = some (.nx, e2.set i sl) := by
  simp only [xSet, h1, Option.bind_some, h2, hi, if_true]
theorem xIf_t {c : EvB} {F G : Ex} {env e1 : Env'} {r : Option (Fl × Env')} (h1 : c env = some (true, e1)) (h2 : F e1 = r) : xIf c F G env = r := by
  simp only [xIf, h1, Option.bind_some, if_true, h2]
theorem xIf_f {c : EvB} {F G : Ex} {env e1 : Env'} {r : Option (Fl × Env')} (h1 : c env = some (false, e1)) (h2 : G e1 = r) : xIf c F G env = r := by
  simp only [xIf, h1, Option.bind_some, Bool.false_eq_true, if_false, h2]
theorem xRet_ok {f : Ev} {env e1 e2 : Env'} {r : R} {d : D} (h1 : f env = some (r, e1)) (h2 : frz e1 r = some (d, e2)) : xRet f env = some (.ret d, e2) := by
  simp only [xRet, h1, Option.bind_some, h2, Option.map_some]
theorem xAsg_ok {g : Tg} {f : Ev} {env e1 e2 e3 : Env'} {r : R} {d : D} (h1 : f env = some (r, e1)) (h2 : frz e1 r = some (d, e2)) (h3 : g d e2 = some e3) : xAsg g f env = some (.nx, e3) := by
  simp only [xAsg, h1, Option.bind_some, h2, h3, Option.map_some]
theorem eCb_ok {p : List D → Option R} {a : EvA} {env e1 : Env'} {rs : List R} {ds : List D} {r : R} (h1 : a env = some (rs, e1)) (h2 : derefL e1 rs = some ds) (h3 : p ds = some r) : eCb p a env = some (r, e1) := by
  simp only [eCb, h1, Option.bind_some, h2, h3, Option.map_some]
theorem aCons_ok {f : Ev} {g : EvA} {env e1 e2 : Env'} {r : R} {rs : List R} (h1 : f env = some (r, e1)) (h2 : g e1 = some (rs, e2)) : aCons f g env = some (r.fz :: rs, e2) := by
  simp only [aCons, h1, Option.bind_some, h2, Option.map_some]
theorem eOp_ok {p : D → D → Option R} {f g : Ev} {env e1 e2 : Env'} {ra rb r : R} {x y : D} (h1 : f env = some (ra, e1)) (h2 : g e1 = some (rb, e2)) (h3 : deref e2 ra.fz = some x) (h4 : deref e2 rb = some y) (h5 : p x y = some r) : eOp p f g env = some (r, e2) := by
  simp only [eOp, h1, Option.bind_some, h2, h3, h4, h5, Option.map_some]
theorem eCall_ok {g : List D → Option D} {a : EvA} {env e1 e2 : Env'} {rs : List R} {ds : List D} {r : D} (h1 : a env = some (rs, e1)) (h2 : frzL e1 rs = some (ds, e2)) (h3 : g ds = some r) : eCall g a env = some (.val r, e2) := by
  simp only [eCall, h1, Option.bind_some, h2, h3, Option.map_some]
theorem eCallM_ok {g : D → List D → Option (D × D)} {a : EvA} {env e1 e2 : Env'} {i : Nat} {rs : List R} {ds : List D} {p : Bool} {c c' r : D} (h1 : a env = some (.var i :: rs, e1)) (h2 : frzL e1 rs = some (ds, e2)) (h3 : e2[i]? = some (.own p c)) (h4 : g c ds = some (r, c')) : eCallM g a env = some (.val r, e2.set i (.own p c')) := by
  simp only [eCallM, h1, Option.bind_some, h2, h3, h4, Option.map_some]
theorem pNe_int {i j : Int} : pNe (.int i) (.int j) = some (.val (.bool (!decide (i = j)))) := rfl
theorem pEq_int {i j : Int} : pEq (.int i) (.int j) = some (.val (.bool (decide (i = j)))) := rfl
theorem atI_get {α : Type} {xs : List α} {j : Nat} {x : α} (h : xs[j]? = some x) : atI xs (j : Int) = some x := L2.atI_nat h
end Sm
set_option Elab.async false
set_option linter.all false
set_option maxRecDepth 100000
set_option maxHeartbeats 1000000
/-! What the defs of the matrices make of data. -/
namespace K52
open PySem PySem.Spec L2 Sm
abbrev Row := List Int
abbrev Mat := List (List Int)
def rowL (r : Row) : D := .list (r.map PyData.int)
def rowT (r : Row) : D := .tuple (r.map PyData.int)
/-- a row, as a list or as a tuple -/
def RowD (r : Row) (d : D) : Prop := d = rowL r ∨ d = rowT r
theorem RowD.seq {r : Row} {d : D} (h : RowD r d) : seqOf d = some (r.map PyData.int) := by
  rcases h with rfl | rfl <;> rfl
/-- entries of at most b bits -/
def Bits (b : Nat) (r : Row) : Prop := ∀ x ∈ r, x.natAbs < 2 ^ b
theorem log_lt {b : Nat} {x : Int} (h : x.natAbs < 2 ^ b) : x.natAbs.log2 ≤ b := by
  rcases Nat.eq_zero_or_pos x.natAbs with z | z
  · rw [z]
    exact Nat.zero_le _
  · exact Nat.le_of_lt ((Nat.log2_lt (Nat.ne_of_gt z)).mpr h)
theorem mulG {a b : Nat} {x y : Int} (hx : x.natAbs < 2 ^ a) (hy : y.natAbs < 2 ^ b) (h : a + b < 134000000) : CMulG x y := by
  unfold CMulG
  have := log_lt hx
  have := log_lt hy
  omega
def minusP (a b : Row) (t : Int) : Row := (a.zip b).map fun p => p.1 - t * p.2
def dotP (a b : Row) : Int := ((a.zip b).map fun p => p.1 * p.2).sum
theorem ziD_rows (a b : Row) : ziD (a.map PyData.int) (b.map PyData.int) = (a.zip b).map fun p => PyData.tuple [.int p.1, .int p.2] := by
  unfold ziD
  rw [List.zip_map, List.map_map]
  rfl
theorem g_minus_eq {a b : Row} {da db : D} {t : Int} (ha : RowD a da) (hb : RowD b db) {k m : Nat} (ht : t.natAbs < 2 ^ k) (hbb : Bits m b) (hk : k + m < 134000000) (hl : a.length ≤ 1000000) : g_minus [da, db, .int t] = some (rowL (minusP a b t)) := by
  have hsa := ha.seq
  have hsb := hb.seq
  have key : lcF (gT 2 (gCons (gN 4) (gCons (gN 3) gNil))) bYes (eOp pSub (eVar 4) (eOp pMul (eVar 2) (eVar 3))) [4, 3] ((a.zip b).map fun p => PyData.tuple [.int p.1, .int p.2]) [.val da, .val db, .val (.int t), .no, .no] = some ((a.zip b).map fun p => .int (p.1 - t * p.2), [.val da, .val db, .val (.int t), .no, .no]) := by
    refine lcF_map _ _ _ fun p hp => ?_
    have hy : p.2.natAbs < 2 ^ m := hbb p.2 (List.of_mem_zip hp).2
    have hc := mulG ht hy hk
    refine ⟨[.val da, .val db, .val (.int t), .val (.int p.2), .val (.int p.1)], _, .val (.int (p.1 - t * p.2)), [.val da, .val db, .val (.int t), .val (.int p.2), .val (.int p.1)], _, by simp, rfl, by simp [hc], rfl, by simp⟩
  have hi : lZi (aCons (eVar 0) (aCons (eVar 1) aNil)) [.val da, .val db, .val (.int t), .no, .no] = some ((a.zip b).map fun p => PyData.tuple [.int p.1, .int p.2], [.val da, .val db, .val (.int t), .no, .no]) := by simp [hsa, hsb, ziD_rows]
  have hc := eLc_ok hi rfl key (by rw [List.length_map, List.length_zip]; omega)
  refine (runP_ok rfl (xRet_ok hc rfl)).trans ?_
  unfold rowL minusP
  rw [List.map_map]
  rfl
theorem g_dot_eq {a b : Row} {da db : D} (ha : RowD a da) (hb : RowD b db) {k m : Nat} (hab : Bits k a) (hbb : Bits m b) (hk : k + m < 134000000) (hl : a.length ≤ 1000000) : g_dot [da, db] = some (.int (dotP a b)) := by
  have hsa := ha.seq
  have hsb := hb.seq
  have key : lcF (gT 2 (gCons (gN 3) (gCons (gN 2) gNil))) bYes (eOp pMul (eVar 3) (eVar 2)) [3, 2] ((a.zip b).map fun p => PyData.tuple [.int p.1, .int p.2]) [.val da, .val db, .no, .no] = some ((a.zip b).map fun p => .int (p.1 * p.2), [.val da, .val db, .no, .no]) := by
    refine lcF_map _ _ _ fun p hp => ?_
    have hc := mulG (hab p.1 (List.of_mem_zip hp).1) (hbb p.2 (List.of_mem_zip hp).2) hk
    refine ⟨[.val da, .val db, .val (.int p.2), .val (.int p.1)], _, .val (.int (p.1 * p.2)), [.val da, .val db, .val (.int p.2), .val (.int p.1)], _, by simp, rfl, by simp [hc], rfl, by simp⟩
  have hm : ((a.zip b).map fun p => PyData.int (p.1 * p.2)) = ((a.zip b).map fun p => p.1 * p.2).map PyData.int := by rw [List.map_map]; rfl
  rw [hm] at key
  have hi : lZi (aCons (eVar 0) (aCons (eVar 1) aNil)) [.val da, .val db, .no, .no] = some ((a.zip b).map fun p => PyData.tuple [.int p.1, .int p.2], [.val da, .val db, .no, .no]) := by simp [hsa, hsb, ziD_rows]
  have hc := eLc_ok hi rfl key (by rw [List.length_map, List.length_map, List.length_zip]; omega)
  exact runP_ok rfl (xRet_ok (eCb_ok (aCons_ok hc rfl) rfl u_pSum) rfl)
/-- the row that has one in its i-th place -/
def unitP (n i : Nat) : Row := (List.range n).map fun j => if j = i then 1 else 0
theorem g_unit_eq {n i : Nat} (hn : n < 1000000) : g_unit [.int n, .int i] = some (rowL (unitP n i)) := by
  have key : lcF (gN 2) bYes (eCb pInt (aCons (eOp pEq (eVar 2) (eVar 1)) aNil)) [2] ((List.range n).map fun i => PyData.int (i : Nat)) [.val (.int n), .val (.int i), .no] = some ((List.range n).map fun j => .int (if j = i then 1 else 0), [.val (.int n), .val (.int i), .no]) := by
    refine lcF_map _ _ _ fun j hj => ?_
    refine ⟨[.val (.int n), .val (.int i), .val (.int j)], _, .val (.int (if j = i then 1 else 0)), [.val (.int n), .val (.int i), .val (.int j)], _, by simp, rfl, ?_, rfl, by simp⟩
    by_cases h : j = i
    · subst h
      simp [pEq_int]
    · have : ¬ ((j : Int) = (i : Int)) := by omega
      simp [pEq_int, h, this]
  have hr := rng1 (a := aCons (eVar 0) aNil) (env := [.val (.int n), .val (.int i), .no]) (e := [.val (.int n), .val (.int i), .no]) (n := n) (by simp) hn
  have hc := eLc_ok hr rfl key (by rw [List.length_map, List.length_range]; omega)
  have hF : F_unit [.val (.int n), .val (.int i), .no] = some (.ret (.list ((List.range n).map fun j => .int (if j = i then 1 else 0))), [.val (.int n), .val (.int i), .no]) := by
    unfold F_unit
    exact xRet_ok hc rfl
  have hg : g_unit [.int n, .int i] = some (.list ((List.range n).map fun j => .int (if j = i then 1 else 0))) := runP_ok rfl hF
  rw [hg]
  unfold rowL unitP
  rw [List.map_map]
  rfl
end K52
set_option Elab.async false
set_option linter.all false
set_option maxRecDepth 100000
set_option maxHeartbeats 1000000
/-! put_least_ahead, cleared. -/
namespace K52
open PySem PySem.Spec L2 Sm
theorem canLay_ints : ∀ r : Row, PyData.canLayAll0 (r.map PyData.int) = true
  | [] => rfl
  | x :: r => by simp [PyData.canLayAll0, PyData.canLay0, canLay_ints r]
theorem depth_ints : ∀ r : Row, PyData.depthAll (r.map PyData.int) ≤ 1
  | [] => Nat.zero_le _
  | x :: r => by
    have := depth_ints r
    simp only [List.map_cons, PyData.depthAll, PyData.depth]
    omega
theorem shaped_rowL (r : Row) : SeqAt.shaped (rowL r) = true := by
  unfold SeqAt.shaped rowL
  have hd := depth_ints r
  simp only [PyData.canLay0, canLay_ints, PyData.depth, Bool.true_and]
  exact decide_eq_true (Nat.le_trans (Nat.succ_le_succ hd) (show 2 ≤ 64 by decide))
theorem eqv_ints : ∀ r s : Row, PyData.eqvAll (r.map PyData.int) (s.map PyData.int) = decide (r = s)
  | [], [] => rfl
  | [], _ :: _ => by simp [PyData.eqvAll]
  | _ :: _, [] => by simp [PyData.eqvAll]
  | x :: r, y :: s => by
    simp only [List.map_cons, PyData.eqvAll, PyData.eqv, eqv_ints r s]
    by_cases h : x = y <;> by_cases h2 : r = s <;> simp [h, h2]
theorem pEq_rowL (r s : Row) : pEq (rowL r) (rowL s) = some (.val (.bool (decide (r = s)))) := by
  unfold pEq
  rw [if_pos ⟨shaped_rowL r, shaped_rowL s⟩]
  unfold rowL
  simp only [PyData.eqv, eqv_ints]
theorem ixN_of {n j : Nat} (hj : j < n) : L2.ixN n (j : Int) = some j := by
  unfold L2.ixN
  rw [if_pos (by omega), if_pos (by omega)]
  simp
theorem gIx_ok {i k : Nat} {fi : Ev} {env e1 : Env'} {p p0 : Bool} {d0 d : D} {ds : List D} (h0 : env[i]? = some (.own p0 d0)) (h1 : fi env = some (.val (.int (k : Nat)), e1)) (h2 : e1[i]? = some (.own p (.list ds))) (hk : k < ds.length) : gIx i fi d env = some (e1.set i (.own p (.list (ds.set k d)))) := by
  simp only [gIx, h0, h1, Option.bind_some, h2, ixN_of hk, Option.map_some]
theorem gT2_ok {g1 g2 : Tg} {a b : D} {env e1 e2 : Env'} (h1 : g1 a env = some e1) (h2 : g2 b e1 = some e2) : gT 2 (gCons g1 (gCons g2 gNil)) (.tuple [a, b]) env = some e2 := by
  simp only [gT, Sm.gCons, Sm.gNil, h1, h2, Option.bind_some, List.length_cons, List.length_nil]
  rfl
def matL (m : Mat) : D := .list (m.map rowL)
/-- an entry -/
def E (m : Mat) (i c : Nat) : Int := (m.getD i []).getD c 0
/-- n columns -/
def Wd (n : Nat) (m : Mat) : Prop := ∀ r ∈ m, r.length = n
theorem ix1_ok {env : Env'} {m : Mat} {p : Bool} {s a i : Nat} {r : Row} (h0 : env[s]? = some (.own p (matL m))) (ha : env[a]? = some (.val (.int (i : Nat)))) (hr : m[i]? = some r) : eOp pIx (eVar s) (eVar a) env = some (.val (rowL r), env) := by
  refine eOp_ok (e1 := env) (ra := .var s) (rb := .val (.int (i : Nat))) (x := matL m) (y := .int (i : Nat)) ?_ ?_ ?_ rfl ?_
  · simp [h0]
  · simp [ha]
  · simp [h0]
  · unfold matL
    rw [u_pIxL, atI_get (x := rowL r) (by rw [List.getElem?_map, hr]; rfl)]
    rfl
theorem ix2_ok {env : Env'} {m : Mat} {p : Bool} {s a k i c : Nat} {r : Row} {x : Int} (h0 : env[s]? = some (.own p (matL m))) (ha : env[a]? = some (.val (.int (i : Nat)))) (hc : env[k]? = some (.val (.int (c : Nat)))) (hr : m[i]? = some r) (hx : r[c]? = some x) :
    eOp pIx (eOp pIx (eVar s) (eVar a)) (eVar k) env = some (.val (.int x), env) := by
  refine eOp_ok (e1 := env) (ra := .val (rowL r)) (rb := .val (.int (c : Nat))) (x := rowL r) (y := .int (c : Nat)) (ix1_ok h0 ha hr) ?_ rfl rfl ?_
  · simp [hc]
  · unfold rowL
    rw [u_pIxL, atI_get (x := .int x) (by rw [List.getElem?_map, hx]; rfl)]
    rfl
theorem E_eq {m : Mat} {i c : Nat} {r : Row} {x : Int} (hr : m[i]? = some r) (hx : r[c]? = some x) : E m i c = x := by
  unfold E
  simp only [List.getD_eq_getElem?_getD, hr, Option.getD_some, hx]
theorem E_get {m : Mat} {n i c : Nat} (hw : Wd n m) (hi : i < m.length) (hc : c < n) : ∃ r x, m[i]? = some r ∧ r[c]? = some x ∧ E m i c = x := by
  have hr : m[i]? = some m[i] := List.getElem?_eq_getElem hi
  have hl : c < (m[i]).length := by rw [hw _ (List.getElem_mem hi)]; exact hc
  exact ⟨m[i], (m[i])[c], hr, List.getElem?_eq_getElem hl, E_eq hr (List.getElem?_eq_getElem hl)⟩
/-- the least by keys, by its place -/
theorem goMin_mem : ∀ (l : List (Int × D)) (k : Int) (d : D), (goMin k d l = d ∧ ∀ p ∈ l, k ≤ p.1) ∨ ∃ p ∈ l, goMin k d l = p.2 ∧ p.1 < k ∧ ∀ q ∈ l, p.1 ≤ q.1
  | [], k, d => .inl ⟨rfl, fun p h => by cases h⟩
  | (k', d') :: l, k, d => by
    unfold goMin
    by_cases h : k' < k
    · rw [if_pos h]
      rcases goMin_mem l k' d' with ⟨e, h2⟩ | ⟨p, hp, e, h2, h3⟩
      · refine .inr ⟨(k', d'), List.mem_cons_self, e, h, fun q hq => ?_⟩
        rcases List.mem_cons.mp hq with rfl | hq
        · exact Int.le_refl _
        · exact h2 q hq
      · refine .inr ⟨p, List.mem_cons_of_mem _ hp, e, by omega, fun q hq => ?_⟩
        rcases List.mem_cons.mp hq with rfl | hq
        · show p.1 ≤ k'
          omega
        · exact h3 q hq
    · rw [if_neg h]
      rcases goMin_mem l k d with ⟨e, h2⟩ | ⟨p, hp, e, h2, h3⟩
      · refine .inl ⟨e, fun q hq => ?_⟩
        rcases List.mem_cons.mp hq with rfl | hq
        · show k ≤ k'
          omega
        · exact h2 q hq
      · refine .inr ⟨p, List.mem_cons_of_mem _ hp, e, h2, fun q hq => ?_⟩
        rcases List.mem_cons.mp hq with rfl | hq
        · show p.1 ≤ k'
          omega
        · exact h3 q hq
theorem argMin_mem {l : List (Int × D)} (h : l ≠ []) : ∃ p ∈ l, argMin l = some p.2 ∧ ∀ q ∈ l, p.1 ≤ q.1 := by
  cases l with
  | nil => exact absurd rfl h
  | cons a l =>
    obtain ⟨k, d⟩ := a
    rcases goMin_mem l k d with ⟨e, h2⟩ | ⟨p, hp, e, h2, h3⟩
    · refine ⟨(k, d), List.mem_cons_self, by rw [argMin, e], fun q hq => ?_⟩
      rcases List.mem_cons.mp hq with rfl | hq
      · exact Int.le_refl _
      · exact h2 q hq
    · refine ⟨p, List.mem_cons_of_mem _ hp, by rw [argMin, e], fun q hq => ?_⟩
      rcases List.mem_cons.mp hq with rfl | hq
      · show p.1 ≤ k
        omega
      · exact h3 q hq
theorem keysOf_map {α : Type} {i : Nat} {g : Ev} {env : Env'} (A : α → D) (κ : α → Int) : ∀ (xs : List α), (∀ x ∈ xs, keyOf i g env (A x) = some (κ x)) → keysOf i g env (xs.map A) = some (xs.map fun x => (κ x, A x))
  | [], _ => rfl
  | x :: xs, h => by
    simp only [List.map_cons, keysOf, h x List.mem_cons_self, keysOf_map A κ xs fun y hy => h y (List.mem_cons_of_mem _ hy), Option.bind_some, Option.map_some]
/-- rows f and l exchanged -/
def swapP (m : Mat) (f l : Nat) : Mat := (m.set f (m.getD l [])).set l (m.getD f [])
theorem g_put_eq {m : Mat} {n f c : Nat} (hw : Wd n m) (hc : c < n) (hf : f ≤ m.length) (hm : m.length < 1000000) (hn : n < 1000000) :
    ((∀ i, f ≤ i → i < m.length → E m i c = 0) ∧ g_put_least_ahead (matL m) [.int f, .int c] = some (.bool false, matL m)) ∨
    ∃ l, f ≤ l ∧ l < m.length ∧ E m l c ≠ 0 ∧ (∀ i, f ≤ i → i < m.length → E m i c ≠ 0 → (E m l c).natAbs ≤ (E m i c).natAbs) ∧ g_put_least_ahead (matL m) [.int f, .int c] = some (.bool true, matL (swapP m f l)) := by
  have key : lcF (gN 5) (bE (eOp pNe (eOp pIx (eOp pIx (eVar 0) (eVar 5)) (eVar 2)) (eC (.int 0)))) (eVar 5) [5] ((List.range (m.length - f)).map fun i => PyData.int ((f + i : Nat))) [.own true (matL m), .val (.int f), .val (.int c), .no, .no, .no] =
      some (((List.range (m.length - f)).filter fun i => !decide (E m (f + i) c = 0)).map fun i => PyData.int ((f + i : Nat)), [.own true (matL m), .val (.int f), .val (.int c), .no, .no, .no]) := by
    refine lcF_filter _ _ _ _ fun i hi => ?_
    have hi' : f + i < m.length := by
      have := List.mem_range.mp hi
      omega
    obtain ⟨r, x, hr, hx, he⟩ := E_get hw hi' hc
    have h2 := ix2_ok (env := [.own true (matL m), .val (.int f), .val (.int c), .no, .no, .val (.int ((f + i : Nat)))]) (p := true) (s := 0) (a := 5) (k := 2) rfl rfl rfl hr hx
    refine ⟨[.own true (matL m), .val (.int f), .val (.int c), .no, .no, .val (.int ((f + i : Nat)))], [.own true (matL m), .val (.int f), .val (.int c), .no, .no, .val (.int ((f + i : Nat)))], rfl, ?_, fun _ => ⟨.val (.int ((f + i : Nat))), [.own true (matL m), .val (.int f), .val (.int c), .no, .no, .val (.int ((f + i : Nat)))], _, rfl, rfl, rfl⟩, fun _ => rfl⟩
    rw [u_bE, eOp_ok h2 (u_eC _) rfl rfl pNe_int, he]
    rfl
  have hr := rng2 (a := aCons (eVar 1) (aCons (eCb pLen (aCons (eVar 0) aNil)) aNil)) (env := [.own true (matL m), .val (.int f), .val (.int c), .no, .no, .no]) (e := [.own true (matL m), .val (.int f), .val (.int c), .no, .no, .no]) (m := f) (n := m.length) (by simp [matL]) (by omega) hm
  have hcmp := eLc_ok hr rfl key (by
    rw [List.length_map]
    have := List.length_filter_le (fun i => !decide (E m (f + i) c = 0)) (List.range (m.length - f))
    rw [List.length_range] at this
    omega)
  let cand := (List.range (m.length - f)).filter fun i => !decide (E m (f + i) c = 0)
  let out : Row := cand.map fun i => ((f + i : Nat) : Int)
  have eout : (cand.map fun i => PyData.int ((f + i : Nat))) = out.map PyData.int := by
    show _ = List.map PyData.int (List.map _ cand)
    rw [List.map_map]
    rfl
  have cmem : ∀ i, i ∈ cand ↔ f + i < m.length ∧ E m (f + i) c ≠ 0 := fun i => by
    show i ∈ List.filter _ _ ↔ _
    rw [List.mem_filter, List.mem_range]
    simp
    omega
  have s1 : xSet 3 (eLc [5] (lRng2 (aCons (eVar 1) (aCons (eCb pLen (aCons (eVar 0) aNil)) aNil))) (gN 5) (bE (eOp pNe (eOp pIx (eOp pIx (eVar 0) (eVar 5)) (eVar 2)) (eC (.int 0)))) (eVar 5)) [.own true (matL m), .val (.int f), .val (.int c), .no, .no, .no] = some (.nx, [.own true (matL m), .val (.int f), .val (.int c), .own false (rowL out), .no, .no]) := by
    rw [eout] at hcmp
    exact xSet_ok hcmp rfl (by simp)
  have cmp2 : bE (eOp pEq (eVar 3) (eLst aNil)) [.own true (matL m), .val (.int f), .val (.int c), .own false (rowL out), .no, .no] = some (decide (out = []), [.own true (matL m), .val (.int f), .val (.int c), .own false (rowL out), .no, .no]) := by
    rw [u_bE, eOp_ok (ra := .var 3) (rb := .fr (rowL [])) (e1 := [.own true (matL m), .val (.int f), .val (.int c), .own false (rowL out), .no, .no]) (by simp) (by simp [rowL]; rfl) rfl rfl (pEq_rowL out [])]
    rfl
  by_cases hz : out = []
  · left
    have cz : cand = [] := List.map_eq_nil_iff.mp hz
    refine ⟨fun i h1 h2 => ?_, ?_⟩
    · by_cases h : E m i c = 0
      · exact h
      · have := (cmem (i - f)).mpr ⟨by omega, by rw [show f + (i - f) = i by omega]; exact h⟩
        rw [cz] at this
        cases this
    · rw [decide_eq_true hz] at cmp2
      have hF : F_put_least_ahead [.own true (matL m), .val (.int f), .val (.int c), .no, .no, .no] = some (.ret (.bool false), [.own true (matL m), .val (.int f), .val (.int c), .own false (rowL out), .no, .no]) := by
        unfold F_put_least_ahead
        exact xSeq_nx s1 (xSeq_ret (xIf_t cmp2 (xRet_ok (u_eC _) rfl)))
      exact runM_ok rfl hF rfl
  · right
    rw [decide_eq_false hz] at cmp2
    have s2 : xIf (bE (eOp pEq (eVar 3) (eLst aNil))) (xRet (eC (.bool false))) xNx [.own true (matL m), .val (.int f), .val (.int c), .own false (rowL out), .no, .no] = some (.nx, [.own true (matL m), .val (.int f), .val (.int c), .own false (rowL out), .no, .no]) := xIf_f cmp2 rfl
    have hkeys : keysOf 5 (eCb pAbs (aCons (eOp pIx (eOp pIx (eVar 0) (eVar 5)) (eVar 2)) aNil)) [.own true (matL m), .val (.int f), .val (.int c), .val (rowL out), .no, .no] (cand.map fun i => PyData.int ((f + i : Nat))) = some (cand.map fun i => (if E m (f + i) c < 0 then -E m (f + i) c else E m (f + i) c, PyData.int ((f + i : Nat)))) := by
      refine keysOf_map _ _ _ fun i hi => ?_
      obtain ⟨h1, _⟩ := (cmem i).mp hi
      obtain ⟨r, x, hr, hx, he⟩ := E_get hw h1 hc
      have h2 := ix2_ok (env := [.own true (matL m), .val (.int f), .val (.int c), .val (rowL out), .no, .val (.int ((f + i : Nat)))]) (p := true) (s := 0) (a := 5) (k := 2) rfl rfl rfl hr hx
      have h3 := eCb_ok (p := pAbs) (aCons_ok h2 (u_aNil)) rfl (u_pAbs)
      unfold keyOf
      show (eCb pAbs _ [.own true (matL m), .val (.int f), .val (.int c), .val (rowL out), .no, .val (.int ((f + i : Nat)))]).bind _ = _
      rw [h3]
      simp only [Option.bind_some, he]
      exact if_pos rfl
    have hne : (cand.map fun i => ((if E m (f + i) c < 0 then -E m (f + i) c else E m (f + i) c), PyData.int ((f + i : Nat)))) ≠ [] := fun z => hz (by
      have := List.map_eq_nil_iff.mp z
      show List.map _ cand = []
      rw [this]
      rfl)
    obtain ⟨p, hp, harg, hmin⟩ := argMin_mem hne
    obtain ⟨i0, hi0, rfl⟩ := List.mem_map.mp hp
    obtain ⟨h1, h2⟩ := (cmem i0).mp hi0
    refine ⟨f + i0, by omega, h1, h2, fun i g1 g2 g3 => ?_, ?_⟩
    · have := hmin _ (List.mem_map.mpr ⟨i - f, (cmem (i - f)).mpr ⟨by omega, by rw [show f + (i - f) = i by omega]; exact g3⟩, rfl⟩)
      simp only [show f + (i - f) = i by omega] at this
      split at this <;> split at this <;> omega
    · have s3 : xSet 4 (eMinK 5 (eVar 3) (eCb pAbs (aCons (eOp pIx (eOp pIx (eVar 0) (eVar 5)) (eVar 2)) aNil))) [.own true (matL m), .val (.int f), .val (.int c), .own false (rowL out), .no, .no] = some (.nx, [.own true (matL m), .val (.int f), .val (.int c), .val (rowL out), .val (.int ((f + i0 : Nat))), .no]) := by
        refine xSet_ok (r := .val (.int ((f + i0 : Nat)))) (e1 := [.own true (matL m), .val (.int f), .val (.int c), .val (rowL out), .no, .no]) ?_ rfl (by simp)
        have hk2 := hkeys
        rw [eout] at hk2
        unfold eMinK
        simp only [u_eVar, List.getElem?_cons_succ, List.getElem?_cons_zero, Option.bind_some, u_frz3, List.set_cons_succ, List.set_cons_zero]
        show (keysOf 5 _ _ (out.map PyData.int)).bind _ = _
        rw [hk2]
        simp only [Option.bind_some, harg, Option.map_some]
      obtain ⟨ra, hra⟩ : ∃ ra, m[f + i0]? = some ra := ⟨_, List.getElem?_eq_getElem h1⟩
      obtain ⟨rb, hrb⟩ : ∃ rb, m[f]? = some rb := ⟨_, List.getElem?_eq_getElem (by omega)⟩
      have t1 := ix1_ok (env := [.own true (matL m), .val (.int f), .val (.int c), .val (rowL out), .val (.int ((f + i0 : Nat))), .no]) (p := true) (s := 0) (a := 4) rfl rfl hra
      have t2 := ix1_ok (env := [.own true (matL m), .val (.int f), .val (.int c), .val (rowL out), .val (.int ((f + i0 : Nat))), .no]) (p := true) (s := 0) (a := 1) rfl rfl hrb
      have s4 : xAsg (gT 2 (gCons (gIx 0 (eVar 1)) (gCons (gIx 0 (eVar 4)) gNil))) (eTup (aCons (eOp pIx (eVar 0) (eVar 4)) (aCons (eOp pIx (eVar 0) (eVar 1)) aNil))) [.own true (matL m), .val (.int f), .val (.int c), .val (rowL out), .val (.int ((f + i0 : Nat))), .no] = some (.nx, [.own true (matL (swapP m f (f + i0))), .val (.int f), .val (.int c), .val (rowL out), .val (.int ((f + i0 : Nat))), .no]) := by
        refine xAsg_ok (r := .val (.tuple [rowL ra, rowL rb])) (d := .tuple [rowL ra, rowL rb]) (e1 := [.own true (matL m), .val (.int f), .val (.int c), .val (rowL out), .val (.int ((f + i0 : Nat))), .no]) ?_ rfl ?_
        · rw [u_eTup, aCons_ok t1 (aCons_ok t2 u_aNil)]
          simp
        · have hf1 : f < m.length := by omega
          have e1 : swapP m f (f + i0) = (m.set f ra).set (f + i0) rb := by
            unfold swapP
            rw [List.getD_eq_getElem?_getD, hra, List.getD_eq_getElem?_getD, hrb]
            rfl
          rw [e1]
          have q1 := gIx_ok (i := 0) (fi := eVar 1) (env := [.own true (matL m), .val (.int f), .val (.int c), .val (rowL out), .val (.int ((f + i0 : Nat))), .no]) (k := f) (d := rowL ra) (ds := m.map rowL) rfl rfl rfl (by rw [List.length_map]; exact hf1)
          have q2 := gIx_ok (i := 0) (fi := eVar 4) (env := [.own true (.list ((m.map rowL).set f (rowL ra))), .val (.int f), .val (.int c), .val (rowL out), .val (.int ((f + i0 : Nat))), .no]) (k := f + i0) (d := rowL rb) (ds := (m.map rowL).set f (rowL ra)) rfl rfl rfl (by rw [List.length_set, List.length_map]; exact h1)
          rw [gT2_ok q1 q2]
          unfold matL
          rw [List.map_set, List.map_set]
          rfl
      have hF : F_put_least_ahead [.own true (matL m), .val (.int f), .val (.int c), .no, .no, .no] = some (.ret (.bool true), [.own true (matL (swapP m f (f + i0))), .val (.int f), .val (.int c), .val (rowL out), .val (.int ((f + i0 : Nat))), .no]) := by
        unfold F_put_least_ahead
        exact xSeq_nx s1 (xSeq_nx s2 (xSeq_nx s3 (xSeq_nx s4 (xRet_ok (u_eC _) rfl))))
      exact runM_ok rfl hF rfl
end K52
set_option Elab.async false
set_option linter.all false
set_option maxRecDepth 100000
set_option maxHeartbeats 1000000
/-! What the steps of cleared do to the lattice, and to the entries' size. -/
namespace K52
open PySem PySem.Spec L2 Sm
def vec (r : Row) : Vec := fun j => r.getD j 0
theorem vec_inj {r s : Row} (hl : r.length = s.length) (h : vec r = vec s) : r = s := by
  apply List.ext_getElem hl
  intro i h1 h2
  have := congrFun h i
  unfold vec at this
  rw [List.getD_eq_getElem?_getD, List.getD_eq_getElem?_getD, List.getElem?_eq_getElem h1, List.getElem?_eq_getElem h2] at this
  exact this
theorem vec_minus {a b : Row} {t : Int} (hl : a.length = b.length) : vec (minusP a b t) = fun j => vec a j + -t * vec b j := by
  funext j
  unfold vec minusP
  simp only [List.getD_eq_getElem?_getD, List.getElem?_map]
  rcases Nat.lt_or_ge j a.length with h | h
  · have h2 : j < b.length := by omega
    have hz : (a.zip b)[j]? = some (a[j], b[j]) := List.getElem?_zip_eq_some.mpr ⟨List.getElem?_eq_getElem h, List.getElem?_eq_getElem h2⟩
    rw [hz, List.getElem?_eq_getElem h, List.getElem?_eq_getElem h2]
    simp only [Option.map_some, Option.getD_some]
    grind
  · have hz : (a.zip b)[j]? = none := List.getElem?_eq_none (by rw [List.length_zip]; omega)
    rw [hz, List.getElem?_eq_none h, List.getElem?_eq_none (by omega)]
    simp
theorem minus_len {a b : Row} {t : Int} (hl : a.length = b.length) : (minusP a b t).length = a.length := by
  unfold minusP
  rw [List.length_map, List.length_zip]
  omega
def negR (r : Row) : Row := r.map fun x => 0 - x
theorem vec_neg (r : Row) : vec (negR r) = fun j => -1 * vec r j := by
  funext j
  unfold vec negR
  simp only [List.getD_eq_getElem?_getD, List.getElem?_map]
  rcases Nat.lt_or_ge j r.length with h | h
  · rw [List.getElem?_eq_getElem h]
    simp
  · rw [List.getElem?_eq_none h]
    simp
/-- the rows from f on, as vectors -/
def T (f : Nat) (m : Mat) : Vec → Prop := fun u => ∃ i r, f ≤ i ∧ m[i]? = some r ∧ u = vec r
/-- only rows from f on are changed, and they make the same -/
structure Same (n f : Nat) (m m' : Mat) : Prop where
  len : m'.length = m.length
  wd : Wd n m'
  top : ∀ i, i < f → m'[i]? = m[i]?
  to : ∀ v, Lat (T f m) v → Lat (T f m') v
  from' : ∀ v, Lat (T f m') v → Lat (T f m) v
theorem Same.refl {n f : Nat} {m : Mat} (hw : Wd n m) : Same n f m m := ⟨rfl, hw, fun _ _ => rfl, fun _ h => h, fun _ h => h⟩
theorem Same.trans {n f : Nat} {m m1 m2 : Mat} (a : Same n f m m1) (b : Same n f m1 m2) : Same n f m m2 :=
  ⟨b.len.trans a.len, b.wd, fun i h => (b.top i h).trans (a.top i h), fun v h => b.to v (a.to v h), fun v h => a.from' v (b.from' v h)⟩
theorem Wd.get {n i : Nat} {m : Mat} {r : Row} (hw : Wd n m) (h : m[i]? = some r) : r.length = n := hw r (List.mem_of_getElem? h)
theorem swap_get {m : Mat} {f l : Nat} (hf : f < m.length) (hl : l < m.length) (i : Nat) : (swapP m f l)[i]? = if i = l then m[f]? else if i = f then m[l]? else m[i]? := by
  unfold swapP
  rw [List.getD_eq_getElem?_getD, List.getD_eq_getElem?_getD, List.getElem?_eq_getElem hf, List.getElem?_eq_getElem hl]
  simp only [Option.getD_some]
  by_cases h1 : i = l
  · subst h1
    rw [if_pos rfl, List.getElem?_set_self (by rw [List.length_set]; exact hl)]
  · rw [if_neg h1, List.getElem?_set_ne (Ne.symm h1)]
    by_cases h2 : i = f
    · subst h2
      rw [if_pos rfl, List.getElem?_set_self hf]
    · rw [if_neg h2, List.getElem?_set_ne (Ne.symm h2)]
theorem swap_same {n : Nat} {m : Mat} {f l : Nat} (hw : Wd n m) (hf : f < m.length) (hl : l < m.length) (hfl : f ≤ l) : Same n f m (swapP m f l) := by
  have g := swap_get hf hl
  refine ⟨by unfold swapP; simp, fun r hr => ?_, fun i hi => ?_, fun v h => h.mono fun u hu => .of ?_, fun v h => h.mono fun u hu => .of ?_⟩
  · obtain ⟨i, hi⟩ := List.getElem?_of_mem hr
    rw [g] at hi
    split at hi
    · exact hw.get hi
    · split at hi
      · exact hw.get hi
      · exact hw.get hi
  · rw [g, if_neg (by omega), if_neg (by omega)]
  · obtain ⟨i, r, h1, h2, rfl⟩ := hu
    by_cases e1 : i = f
    · exact ⟨l, r, hfl, by rw [g, if_pos rfl, ← e1]; exact h2, rfl⟩
    · by_cases e2 : i = l
      · refine ⟨f, r, Nat.le_refl _, ?_, rfl⟩
        rw [g]
        by_cases e3 : f = l
        · rw [if_pos e3, e3, ← e2]
          exact h2
        · rw [if_neg e3, if_pos rfl, ← e2]
          exact h2
      · exact ⟨i, r, h1, by rw [g, if_neg e2, if_neg e1]; exact h2, rfl⟩
  · obtain ⟨i, r, h1, h2, rfl⟩ := hu
    rw [g] at h2
    split at h2
    · exact ⟨f, r, Nat.le_refl _, h2, rfl⟩
    · split at h2
      · exact ⟨l, r, hfl, h2, rfl⟩
      · exact ⟨i, r, h1, h2, rfl⟩
def negP (m : Mat) (f : Nat) : Mat := m.set f (negR (m.getD f []))
theorem neg_get {m : Mat} {f : Nat} {r : Row} (hr : m[f]? = some r) (i : Nat) : (negP m f)[i]? = if i = f then some (negR r) else m[i]? := by
  unfold negP
  rw [List.getD_eq_getElem?_getD, hr]
  simp only [Option.getD_some]
  by_cases h : i = f
  · subst h
    rw [if_pos rfl, List.getElem?_set_self (lt_of_get hr)]
  · rw [if_neg h, List.getElem?_set_ne (Ne.symm h)]
theorem neg_same {n : Nat} {m : Mat} {f : Nat} {r : Row} (hw : Wd n m) (hr : m[f]? = some r) : Same n f m (negP m f) := by
  have g := neg_get hr
  refine ⟨by unfold negP; simp, fun r' hr' => ?_, fun i hi => ?_, fun v h => h.mono fun u hu => ?_, fun v h => h.mono fun u hu => ?_⟩
  · obtain ⟨i, hi⟩ := List.getElem?_of_mem hr'
    rw [g] at hi
    split at hi
    · cases hi
      unfold negR
      rw [List.length_map]
      exact hw.get hr
    · exact hw.get hi
  · rw [g, if_neg (by omega)]
  · obtain ⟨i, r', h1, h2, rfl⟩ := hu
    by_cases e : i = f
    · subst e
      rw [hr] at h2
      cases h2
      have := (Lat.of (S := T i (negP m i)) ⟨i, negR r, Nat.le_refl _, by rw [g, if_pos rfl], rfl⟩).smul (-1)
      have e : (fun j => -1 * vec (negR r) j) = vec r := by
        rw [vec_neg]
        funext j
        grind
      rw [e] at this
      exact this
    · exact .of ⟨i, r', h1, by rw [g, if_neg e]; exact h2, rfl⟩
  · obtain ⟨i, r', h1, h2, rfl⟩ := hu
    rw [g] at h2
    split at h2
    · cases h2
      have := (Lat.of (S := T f m) ⟨f, r, Nat.le_refl _, hr, rfl⟩).smul (-1)
      rw [vec_neg]
      exact this
    · exact .of ⟨i, r', h1, h2, rfl⟩
/-- the first k rows behind f reduced by row f -/
def passP (m : Mat) (f c k : Nat) : Mat := m.mapIdx fun i r => if f < i ∧ i < f + 1 + k then minusP r (m.getD f []) (r.getD c 0 / E m f c) else r
theorem pass_get {m : Mat} {f c k : Nat} (i : Nat) : (passP m f c k)[i]? = (m[i]?).map fun r => if f < i ∧ i < f + 1 + k then minusP r (m.getD f []) (r.getD c 0 / E m f c) else r := by
  unfold passP
  rw [List.getElem?_mapIdx]
theorem pass_same {n : Nat} {m : Mat} {f c k : Nat} {p : Row} (hw : Wd n m) (hp : m[f]? = some p) : Same n f m (passP m f c k) := by
  have hpd : m.getD f [] = p := by rw [List.getD_eq_getElem?_getD, hp]; rfl
  have g : ∀ i, (passP m f c k)[i]? = (m[i]?).map fun r => if f < i ∧ i < f + 1 + k then minusP r p (r.getD c 0 / E m f c) else r := fun i => by rw [pass_get, hpd]
  have gp : (passP m f c k)[f]? = some p := by rw [g, hp]; simp
  have lp := hw.get hp
  refine ⟨by unfold passP; simp, fun r' hr' => ?_, fun i hi => ?_, fun v h => h.mono fun u hu => ?_, fun v h => h.mono fun u hu => ?_⟩
  · obtain ⟨i, hi⟩ := List.getElem?_of_mem hr'
    rw [g, Option.map_eq_some_iff] at hi
    obtain ⟨r, hr, rfl⟩ := hi
    split
    · rw [minus_len (by rw [lp, hw.get hr])]
      exact hw.get hr
    · exact hw.get hr
  · rw [g]
    cases hm : m[i]? with
    | none => rfl
    | some r => simp only [Option.map_some]; rw [if_neg (by omega)]
  · obtain ⟨i, r, h1, h2, rfl⟩ := hu
    by_cases e : f < i ∧ i < f + 1 + k
    · have a := Lat.of (S := T f (passP m f c k)) ⟨i, _, h1, by rw [g, h2, Option.map_some, if_pos e], rfl⟩
      have b := Lat.of (S := T f (passP m f c k)) ⟨f, p, Nat.le_refl _, gp, rfl⟩
      have := a.axpy (r.getD c 0 / E m f c) b
      rw [vec_minus (by rw [lp, hw.get h2])] at this
      have e2 : (fun j => (fun j => vec r j + -(r.getD c 0 / E m f c) * vec p j) j + (r.getD c 0 / E m f c) * vec p j) = vec r := by
        funext j
        grind
      rw [e2] at this
      exact this
    · exact .of ⟨i, r, h1, by rw [g, h2, Option.map_some, if_neg e], rfl⟩
  · obtain ⟨i, r', h1, h2, rfl⟩ := hu
    rw [g, Option.map_eq_some_iff] at h2
    obtain ⟨r, hr, rfl⟩ := h2
    have a := Lat.of (S := T f m) ⟨i, r, h1, hr, rfl⟩
    split
    · have b := Lat.of (S := T f m) ⟨f, p, Nat.le_refl _, hp, rfl⟩
      rw [vec_minus (by rw [lp, hw.get hr])]
      exact a.axpy _ b
    · exact a
end K52
set_option Elab.async false
set_option linter.all false
set_option maxRecDepth 100000
set_option maxHeartbeats 1000000
/-! cleared, one turn. -/
namespace K52
open PySem PySem.Spec L2 Sm
/-- sizes of the rows from f on -/
def Sz (f M : Nat) (m : Mat) : Prop := ∀ i r, f ≤ i → m[i]? = some r → ∀ x ∈ r, x.natAbs ≤ M
theorem div_abs (x L : Int) : (x / L).natAbs ≤ x.natAbs := Int.natAbs_ediv_le_natAbs x L
theorem Sz.bits {f M b i : Nat} {m : Mat} {r : Row} (h : Sz f M m) (hb : M < 2 ^ b) (hi : f ≤ i) (hr : m[i]? = some r) : Bits b r := fun x hx => Nat.lt_of_le_of_lt (h i r hi hr x hx) hb
theorem matL_set {m : Mat} {f : Nat} {r : Row} : matL (m.set f r) = .list ((m.map rowL).set f (rowL r)) := by
  unfold matL
  rw [List.map_set]
theorem negR_eq (r : Row) : rowL (negR r) = .list (r.map fun x => PyData.int (0 - x)) := by
  unfold rowL negR
  rw [List.map_map]
  rfl
abbrev ce (m : Mat) (f c : Nat) (s3 s4 : Sl) : Env' := [.own true (matL m), .val (.int (f : Nat)), .val (.int (c : Nat)), s3, s4, .no]
def normP (m : Mat) (f c : Nat) : Mat := if E m f c < 0 then negP m f else m
theorem s1_ok {m : Mat} {n f c : Nat} {s3 : Sl} (hw : Wd n m) (hc : c < n) (hf : f < m.length) (hn : n ≤ 1000000) :
    xIf (bE (eOp pLt (eOp pIx (eOp pIx (eVar 0) (eVar 1)) (eVar 2)) (eC (.int 0)))) (xAsg (gIx 0 (eVar 1)) (eLc [5] (lSeq (eOp pIx (eVar 0) (eVar 1))) (gN 5) bYes (eOp pSub (eC (.int 0)) (eVar 5)))) xNx (ce m f c s3 .no) = some (.nx, ce (normP m f c) f c s3 .no) := by
  obtain ⟨r, x, hr, hx, he⟩ := E_get hw hf hc
  have h2 := ix2_ok (env := ce m f c s3 .no) (p := true) (s := 0) (a := 1) (k := 2) rfl rfl rfl hr hx
  have hb : bE (eOp pLt (eOp pIx (eOp pIx (eVar 0) (eVar 1)) (eVar 2)) (eC (.int 0))) (ce m f c s3 .no) = some (decide (x < 0), ce m f c s3 .no) := by
    rw [u_bE, eOp_ok h2 (u_eC _) rfl rfl u_pCmpI]
    rfl
  unfold normP
  rw [he]
  by_cases h : x < 0
  · rw [if_pos h]
    rw [decide_eq_true h] at hb
    refine xIf_t hb ?_
    have h1 := ix1_ok (env := ce m f c s3 .no) (p := true) (s := 0) (a := 1) rfl rfl hr
    have hi : lSeq (eOp pIx (eVar 0) (eVar 1)) (ce m f c s3 .no) = some (r.map PyData.int, ce m f c s3 .no) := by
      rw [u_lSeq, h1]
      rfl
    have key : lcF (gN 5) bYes (eOp pSub (eC (.int 0)) (eVar 5)) [5] (r.map PyData.int) (ce m f c s3 .no) = some (r.map fun x => PyData.int (0 - x), ce m f c s3 .no) := by
      refine lcF_map _ _ _ fun y hy => ?_
      exact ⟨[.own true (matL m), .val (.int f), .val (.int c), s3, .no, .val (.int y)], _, .val (.int (0 - y)), [.own true (matL m), .val (.int f), .val (.int c), s3, .no, .val (.int y)], _, rfl, rfl, rfl, rfl, rfl⟩
    have hl : (r.map fun x => PyData.int (0 - x)).length ≤ 1000000 := by rw [List.length_map, hw.get hr]; exact hn
    have hcmp := eLc_ok hi rfl key hl
    refine xAsg_ok hcmp rfl ?_
    rw [gIx_ok (i := 0) (fi := eVar 1) (env := ce m f c s3 .no) (k := f) (ds := m.map rowL) rfl rfl rfl (by rw [List.length_map]; exact hf)]
    unfold negP
    rw [List.getD_eq_getElem?_getD, hr, Option.getD_some, ← negR_eq]
    show some [Sl.own true (.list ((m.map rowL).set f (rowL (negR r)))), _, _, _, _, _] = some [Sl.own true (matL (m.set f (negR r))), _, _, _, _, _]
    rw [matL_set]
  · rw [if_neg h]
    rw [decide_eq_false h] at hb
    exact xIf_f hb rfl
theorem E_of {m : Mat} {i c : Nat} {r : Row} (hr : m[i]? = some r) : E m i c = r.getD c 0 := by
  unfold E
  simp only [List.getD_eq_getElem?_getD, hr, Option.getD_some]
/-- the loop over the rows below -/
theorem s3_ok {m : Mat} {n f c b M : Nat} (hw : Wd n m) (hc : c < n) (hf : f < m.length) (hm : m.length < 1000000) (hn : n ≤ 1000000) (hL : 0 < E m f c) (hz : Sz f M m) (hb : M < 2 ^ b) (hbb : b + b < 134000000) :
    ∃ s4, xFor (lRng2 (aCons (eOp pAdd (eVar 1) (eC (.int 1))) (aCons (eCb pLen (aCons (eVar 0) aNil)) aNil))) (gN 4) (xAsg (gIx 0 (eVar 4)) (eCall g_minus (aCons (eOp pIx (eVar 0) (eVar 4)) (aCons (eOp pIx (eVar 0) (eVar 1)) (aCons (eOp pFdiv (eOp pIx (eOp pIx (eVar 0) (eVar 4)) (eVar 2)) (eVar 3)) aNil))))) (ce m f c (.val (.int (E m f c))) .no) =
      some (.nx, ce (passP m f c (m.length - (f + 1))) f c (.val (.int (E m f c))) s4) := by
  have hr := rng2 (a := aCons (eOp pAdd (eVar 1) (eC (.int 1))) (aCons (eCb pLen (aCons (eVar 0) aNil)) aNil)) (env := ce m f c (.val (.int (E m f c))) .no) (e := ce m f c (.val (.int (E m f c))) .no) (m := f + 1) (n := m.length) (by simp [matL]) (by omega) hm
  obtain ⟨p, x0, hp, hx0, he0⟩ := E_get hw hf hc
  have hpd : m.getD f [] = p := by rw [List.getD_eq_getElem?_getD, hp]; rfl
  obtain ⟨env', h1, s4, h2⟩ := for_ok hr (I := fun k env => ∃ s4, env = ce (passP m f c k) f c (.val (.int (E m f c))) s4) ⟨.no, by
    have : passP m f c 0 = m := by
      apply List.ext_getElem?
      intro i
      rw [pass_get]
      cases m[i]? with
      | none => rfl
      | some r => simp only [Option.map_some]; rw [if_neg (by omega)]
    rw [this]⟩ (g := gN 4) (F := xAsg (gIx 0 (eVar 4)) (eCall g_minus (aCons (eOp pIx (eVar 0) (eVar 4)) (aCons (eOp pIx (eVar 0) (eVar 1)) (aCons (eOp pFdiv (eOp pIx (eOp pIx (eVar 0) (eVar 4)) (eVar 2)) (eVar 3)) aNil))))) (fun j env d hI hd => by
    obtain ⟨s4, rfl⟩ := hI
    rw [List.getElem?_map, Option.map_eq_some_iff] at hd
    obtain ⟨j', hj, rfl⟩ := hd
    have hlt := lt_of_get hj
    rw [List.length_range] at hlt
    rw [List.getElem?_range hlt] at hj
    cases hj
    have hi : f + 1 + j < m.length := by omega
    obtain ⟨r, x, hr2, hx, he⟩ := E_get hw hi hc
    have gr : (passP m f c j)[f + 1 + j]? = some r := by
      rw [pass_get, hr2, Option.map_some, if_neg (by omega)]
    have gp : (passP m f c j)[f]? = some p := by
      rw [pass_get, hp, Option.map_some, if_neg (by omega)]
    let e4 : Env' := ce (passP m f c j) f c (.val (.int (E m f c))) (.val (.int ((f + 1 + j : Nat))))
    have t1 := ix1_ok (env := e4) (p := true) (s := 0) (a := 4) rfl rfl gr
    have t2 := ix1_ok (env := e4) (p := true) (s := 0) (a := 1) rfl rfl gp
    have t3 := ix2_ok (env := e4) (p := true) (s := 0) (a := 4) (k := 2) rfl rfl rfl gr hx
    have t4 : eOp pFdiv (eOp pIx (eOp pIx (eVar 0) (eVar 4)) (eVar 2)) (eVar 3) e4 = some (.val (.int (x / E m f c)), e4) := eOp_ok t3 (show eVar 3 e4 = some (.val (.int (E m f c)), e4) from rfl) rfl rfl (by rw [u_pFdiv, if_pos hL])
    have bx : x.natAbs ≤ M := hz _ r (by omega) hr2 x (List.mem_of_getElem? hx)
    have bq : (x / E m f c).natAbs < 2 ^ b := Nat.lt_of_le_of_lt (Nat.le_trans (div_abs x _) bx) hb
    have t5 := g_minus_eq (a := r) (b := p) (da := rowL r) (db := rowL p) (t := x / E m f c) (.inl rfl) (.inl rfl) bq (hz.bits hb (Nat.le_refl _) hp) hbb (by rw [hw.get hr2]; exact hn)
    have t6 := eCall_ok (g := g_minus) (aCons_ok t1 (aCons_ok t2 (aCons_ok t4 u_aNil))) rfl t5
    refine ⟨e4, ce (passP m f c (j + 1)) f c (.val (.int (E m f c))) (.val (.int ((f + 1 + j : Nat)))), rfl, .inl ?_, _, rfl⟩
    refine xAsg_ok t6 rfl ?_
    rw [gIx_ok (i := 0) (fi := eVar 4) (env := e4) (k := f + 1 + j) (ds := (passP m f c j).map rowL) rfl rfl rfl (by rw [List.length_map]; unfold passP; rw [List.length_mapIdx]; exact hi)]
    show some [Sl.own true (.list (((passP m f c j).map rowL).set (f + 1 + j) (rowL (minusP r p (x / E m f c))))), _, _, _, _, _] = some [Sl.own true (matL (passP m f c (j + 1))), _, _, _, _, _]
    rw [← matL_set]
    have e : (passP m f c j).set (f + 1 + j) (minusP r p (x / E m f c)) = passP m f c (j + 1) := by
      apply List.ext_getElem?
      intro i
      by_cases h : i = f + 1 + j
      · subst h
        rw [List.getElem?_set_self (by unfold passP; rw [List.length_mapIdx]; exact hi), pass_get, hr2, Option.map_some, if_pos ⟨by omega, by omega⟩, hpd]
        rw [List.getD_eq_getElem?_getD, hx]
        rfl
      · rw [List.getElem?_set_ne (Ne.symm h), pass_get, pass_get]
        cases m[i]? with
        | none => rfl
        | some r' =>
          simp only [Option.map_some]
          by_cases h2 : f < i ∧ i < f + 1 + j
          · rw [if_pos h2, if_pos ⟨by omega, by omega⟩]
          · rw [if_neg h2, if_neg (by omega)]
    rw [e])
  rw [List.length_map, List.length_range] at h2
  exact ⟨s4, by rw [h1, h2]⟩
/-- is all below nothing? -/
def zeroB (m : Mat) (f c : Nat) : Bool := ((List.range (m.length - (f + 1))).map fun j => decide (E m (f + 1 + j) c = 0)).all id
theorem zeroB_true {m : Mat} {f c : Nat} (h : zeroB m f c = true) (i : Nat) (h1 : f < i) (h2 : i < m.length) : E m i c = 0 := by
  unfold zeroB at h
  rw [List.all_eq_true] at h
  have := h _ (List.mem_map.mpr ⟨i - (f + 1), List.mem_range.mpr (by omega), rfl⟩)
  rw [show f + 1 + (i - (f + 1)) = i by omega] at this
  exact of_decide_eq_true this
theorem zeroB_false {m : Mat} {f c : Nat} (h : zeroB m f c = false) : ∃ i, f < i ∧ i < m.length ∧ E m i c ≠ 0 := by
  unfold zeroB at h
  rw [List.all_eq_false] at h
  obtain ⟨b, hb, h⟩ := h
  obtain ⟨j, hj, rfl⟩ := List.mem_map.mp hb
  have := List.mem_range.mp hj
  exact ⟨f + 1 + j, by omega, by omega, fun z => h (decide_eq_true z)⟩
theorem s4_ok {m : Mat} {n f c : Nat} {s3 s4 : Sl} (hw : Wd n m) (hc : c < n) (hf : f < m.length) (hm : m.length < 1000000) :
    xIf (bV (eCb pAll (aCons (eLc [4] (lRng2 (aCons (eOp pAdd (eVar 1) (eC (.int 1))) (aCons (eCb pLen (aCons (eVar 0) aNil)) aNil))) (gN 4) bYes (eOp pEq (eOp pIx (eOp pIx (eVar 0) (eVar 4)) (eVar 2)) (eC (.int 0)))) aNil))) (xRet (eC (.bool true))) xNx (ce m f c s3 s4) =
      some (if zeroB m f c = true then .ret (.bool true) else .nx, ce m f c s3 .no) := by
  have hr := rng2 (a := aCons (eOp pAdd (eVar 1) (eC (.int 1))) (aCons (eCb pLen (aCons (eVar 0) aNil)) aNil)) (env := ce m f c s3 s4) (e := ce m f c s3 s4) (m := f + 1) (n := m.length) (by simp [matL]) (by omega) hm
  have key : lcF (gN 4) bYes (eOp pEq (eOp pIx (eOp pIx (eVar 0) (eVar 4)) (eVar 2)) (eC (.int 0))) [4] ((List.range (m.length - (f + 1))).map fun i => PyData.int ((f + 1 + i : Nat))) (ce m f c s3 .no) = some ((List.range (m.length - (f + 1))).map fun j => PyData.bool (decide (E m (f + 1 + j) c = 0)), ce m f c s3 .no) := by
    refine lcF_map _ _ _ fun j hj => ?_
    have hi : f + 1 + j < m.length := by
      have := List.mem_range.mp hj
      omega
    obtain ⟨r, x, hr2, hx, he⟩ := E_get hw hi hc
    have t := ix2_ok (env := ce m f c s3 (.val (.int ((f + 1 + j : Nat))))) (p := true) (s := 0) (a := 4) (k := 2) rfl rfl rfl hr2 hx
    exact ⟨ce m f c s3 (.val (.int ((f + 1 + j : Nat)))), _, .val (.bool (decide (E m (f + 1 + j) c = 0))), ce m f c s3 (.val (.int ((f + 1 + j : Nat)))), _, rfl, rfl, by rw [he]; exact eOp_ok t (u_eC _) rfl rfl pEq_int, rfl, rfl⟩
  have hcmp := eLc_ok hr rfl key (by rw [List.length_map, List.length_range]; omega)
  have hm2 : ((List.range (m.length - (f + 1))).map fun j => PyData.bool (decide (E m (f + 1 + j) c = 0))) = ((List.range (m.length - (f + 1))).map fun j => decide (E m (f + 1 + j) c = 0)).map PyData.bool := by rw [List.map_map]; rfl
  rw [hm2] at hcmp
  have hb : bV (eCb pAll (aCons (eLc [4] (lRng2 (aCons (eOp pAdd (eVar 1) (eC (.int 1))) (aCons (eCb pLen (aCons (eVar 0) aNil)) aNil))) (gN 4) bYes (eOp pEq (eOp pIx (eOp pIx (eVar 0) (eVar 4)) (eVar 2)) (eC (.int 0)))) aNil)) (ce m f c s3 s4) = some (zeroB m f c, ce m f c s3 .no) := by
    rw [u_bV, eCb_ok (aCons_ok hcmp u_aNil) rfl u_pAll]
    rfl
  cases hz : zeroB m f c with
  | true =>
    rw [hz] at hb
    rw [if_pos rfl]
    exact xIf_t hb (xRet_ok (u_eC _) rfl)
  | false =>
    rw [hz] at hb
    rw [if_neg Bool.false_ne_true]
    exact xIf_f hb rfl
/-- what a turn makes of rows whose row f has something in column c -/
def turnP (m : Mat) (f c : Nat) : Mat := passP (normP m f c) f c (m.length - (f + 1))
noncomputable abbrev clearB : Ex := (xSeq (xIf (bE (eOp pLt (eOp pIx (eOp pIx (eVar 0) (eVar 1)) (eVar 2)) (eC (.int 0)))) (xAsg (gIx 0 (eVar 1)) (eLc [5] (lSeq (eOp pIx (eVar 0) (eVar 1))) (gN 5) bYes (eOp pSub (eC (.int 0)) (eVar 5)))) xNx)
    (xSeq (xSet 3 (eOp pIx (eOp pIx (eVar 0) (eVar 1)) (eVar 2)))
    (xSeq (xFor (lRng2 (aCons (eOp pAdd (eVar 1) (eC (.int 1))) (aCons (eCb pLen (aCons (eVar 0) aNil)) aNil))) (gN 4) (xAsg (gIx 0 (eVar 4)) (eCall g_minus (aCons (eOp pIx (eVar 0) (eVar 4)) (aCons (eOp pIx (eVar 0) (eVar 1)) (aCons (eOp pFdiv (eOp pIx (eOp pIx (eVar 0) (eVar 4)) (eVar 2)) (eVar 3)) aNil))))))
    (xIf (bV (eCb pAll (aCons (eLc [4] (lRng2 (aCons (eOp pAdd (eVar 1) (eC (.int 1))) (aCons (eCb pLen (aCons (eVar 0) aNil)) aNil))) (gN 4) bYes (eOp pEq (eOp pIx (eOp pIx (eVar 0) (eVar 4)) (eVar 2)) (eC (.int 0)))) aNil))) (xRet (eC (.bool true))) xNx))))
noncomputable abbrev clearC : EvB := bV (eCallM g_put_least_ahead (aCons (eVar 0) (aCons (eVar 1) (aCons (eVar 2) aNil))))
theorem norm_len {m : Mat} {f c : Nat} : (normP m f c).length = m.length := by
  unfold normP negP
  split <;> simp
theorem pass_len {m : Mat} {f c k : Nat} : (passP m f c k).length = m.length := by
  unfold passP
  simp
theorem norm_same {m : Mat} {n f c : Nat} (hw : Wd n m) (hf : f < m.length) : Same n f m (normP m f c) := by
  unfold normP
  split
  · exact neg_same hw (List.getElem?_eq_getElem hf)
  · exact .refl hw
theorem neg_getD {r : Row} {c : Nat} : (negR r).getD c 0 = -(r.getD c 0) := by
  have := congrFun (vec_neg r) c
  unfold vec at this
  rw [this]
  omega
theorem norm_E {m : Mat} {f c : Nat} (hf : f < m.length) : E (normP m f c) f c = ((E m f c).natAbs : Nat) := by
  have hr : m[f]? = some m[f] := List.getElem?_eq_getElem hf
  unfold normP
  split
  · rename_i h
    rw [E_of (r := negR m[f]) (by rw [neg_get hr, if_pos rfl]), neg_getD, ← E_of hr]
    omega
  · omega
theorem norm_E' {m : Mat} {f c i : Nat} (hf : f < m.length) (hi : i ≠ f) : E (normP m f c) i c = E m i c := by
  have hr : m[f]? = some m[f] := List.getElem?_eq_getElem hf
  unfold normP
  split
  · unfold E
    simp only [List.getD_eq_getElem?_getD]
    rw [neg_get hr, if_neg hi]
  · rfl
theorem norm_sz {m : Mat} {f c M : Nat} (hf : f < m.length) (h : Sz f M m) : Sz f M (normP m f c) := by
  have hr : m[f]? = some m[f] := List.getElem?_eq_getElem hf
  unfold normP
  split
  · intro i r hi hr2 x hx
    rw [neg_get hr] at hr2
    split at hr2
    · cases hr2
      unfold negR at hx
      obtain ⟨y, hy, rfl⟩ := List.mem_map.mp hx
      have := h f _ (Nat.le_refl _) hr y hy
      omega
    · exact h i r hi hr2 x hx
  · exact h
theorem turn_len {m : Mat} {f c : Nat} : (turnP m f c).length = m.length := by
  unfold turnP
  rw [pass_len, norm_len]
theorem turn_same {m : Mat} {n f c : Nat} (hw : Wd n m) (hf : f < m.length) : Same n f m (turnP m f c) := by
  have a := norm_same (c := c) hw hf
  obtain ⟨p, hp⟩ : ∃ p, (normP m f c)[f]? = some p := ⟨_, List.getElem?_eq_getElem (by rw [norm_len]; exact hf)⟩
  exact a.trans (pass_same a.wd hp)
theorem body_ok {m : Mat} {n f c b M : Nat} {s3 : Sl} (hw : Wd n m) (hc : c < n) (hf : f < m.length) (hm : m.length < 1000000) (hn : n ≤ 1000000) (hE : E m f c ≠ 0) (hz : Sz f M m) (hb : M < 2 ^ b) (hbb : b + b < 134000000) :
    clearB (ce m f c s3 .no) = some (if zeroB (turnP m f c) f c = true then .ret (.bool true) else .nx, ce (turnP m f c) f c (.val (.int ((E m f c).natAbs : Nat))) .no) := by
  have a := norm_same (c := c) hw hf
  have hf1 : f < (normP m f c).length := by rw [norm_len]; exact hf
  have hL : 0 < E (normP m f c) f c := by rw [norm_E hf]; omega
  obtain ⟨r, x, hr, hx, he⟩ := E_get a.wd hf1 hc
  have t2 : xSet 3 (eOp pIx (eOp pIx (eVar 0) (eVar 1)) (eVar 2)) (ce (normP m f c) f c s3 .no) = some (.nx, ce (normP m f c) f c (.val (.int (E (normP m f c) f c))) .no) := by
    have h2 := ix2_ok (env := ce (normP m f c) f c s3 .no) (p := true) (s := 0) (a := 1) (k := 2) rfl rfl rfl hr hx
    rw [← he] at h2
    exact xSet_ok h2 rfl (by simp)
  obtain ⟨s4, t3⟩ := s3_ok a.wd hc hf1 (by rw [norm_len]; exact hm) hn hL (norm_sz hf hz) hb hbb
  have hp : (normP m f c)[f]? = some (normP m f c)[f] := List.getElem?_eq_getElem hf1
  have t4 := s4_ok (s3 := .val (.int (E (normP m f c) f c))) (s4 := s4) (pass_same (c := c) (k := (normP m f c).length - (f + 1)) a.wd hp).wd hc (by rw [pass_len]; exact hf1) (by rw [pass_len, norm_len]; exact hm)
  have e : passP (normP m f c) f c ((normP m f c).length - (f + 1)) = turnP m f c := by
    unfold turnP
    rw [norm_len]
  rw [e] at t3 t4
  rw [← norm_E hf]
  exact xSeq_nx (s1_ok hw hc hf hn) (xSeq_nx t2 (xSeq_nx t3 t4))
end K52
set_option Elab.async false
set_option linter.all false
set_option maxRecDepth 100000
set_option maxHeartbeats 1000000
/-! cleared. -/
namespace K52
open PySem PySem.Spec L2 Sm
theorem turn_row {m : Mat} {n f c i : Nat} {r : Row} (hw : Wd n m) (hf : f < m.length) (hfi : f < i) (hr : m[i]? = some r) :
    ∃ p, (normP m f c)[f]? = some p ∧ (turnP m f c)[i]? = some (minusP r p (E m i c / ((E m f c).natAbs : Nat))) := by
  obtain ⟨p, hp⟩ : ∃ p, (normP m f c)[f]? = some p := ⟨_, List.getElem?_eq_getElem (by rw [norm_len]; exact hf)⟩
  refine ⟨p, hp, ?_⟩
  have hi := lt_of_get hr
  have e : (normP m f c)[i]? = some r := by
    unfold normP
    split
    · rw [neg_get (List.getElem?_eq_getElem hf), if_neg (by omega)]
      exact hr
    · exact hr
  unfold turnP
  rw [pass_get, e, Option.map_some, if_pos ⟨hfi, by omega⟩, norm_E hf, E_of hr, List.getD_eq_getElem?_getD, hp]
  rfl
theorem turn_f {m : Mat} {f c : Nat} (hf : f < m.length) : (turnP m f c)[f]? = (normP m f c)[f]? := by
  unfold turnP
  rw [pass_get]
  cases (normP m f c)[f]? with
  | none => rfl
  | some r => simp only [Option.map_some]; rw [if_neg (by omega)]
theorem turn_E_f {m : Mat} {f c : Nat} (hf : f < m.length) : E (turnP m f c) f c = ((E m f c).natAbs : Nat) := by
  rw [← norm_E hf]
  unfold E
  simp only [List.getD_eq_getElem?_getD, turn_f hf]
theorem minus_getD {a b : Row} {t : Int} {c : Nat} (hl : a.length = b.length) : (minusP a b t).getD c 0 = a.getD c 0 - t * b.getD c 0 := by
  have := congrFun (vec_minus (t := t) hl) c
  unfold vec at this
  rw [this]
  grind
theorem turn_E {m : Mat} {n f c i : Nat} (hw : Wd n m) (hf : f < m.length) (hfi : f < i) (hi : i < m.length) : E (turnP m f c) i c = E m i c % ((E m f c).natAbs : Nat) := by
  have hr : m[i]? = some m[i] := List.getElem?_eq_getElem hi
  obtain ⟨p, hp, ht⟩ := turn_row (c := c) hw hf hfi hr
  have lp := (norm_same (c := c) hw hf).wd.get hp
  rw [E_of ht, minus_getD (by rw [lp, hw.get hr]), ← E_of hr, ← E_of hp, norm_E hf, Int.emod_def, Int.mul_comm]
theorem turn_sz {m : Mat} {n f c M Q : Nat} (hw : Wd n m) (hf : f < m.length) (h : Sz f M m) (hq : ∀ i, f < i → i < m.length → (E m i c / ((E m f c).natAbs : Nat)).natAbs ≤ Q) : Sz f (M + Q * M) (turnP m f c) := by
  intro i r hi hr x hx
  by_cases e : i = f
  · subst e
    rw [turn_f hf] at hr
    have := norm_sz (c := c) hf h i r hi hr x hx
    exact Nat.le_trans this (Nat.le_add_right _ _)
  · have hlt : i < m.length := by
      have := lt_of_get hr
      rw [turn_len] at this
      exact this
    have hr0 : m[i]? = some m[i] := List.getElem?_eq_getElem hlt
    obtain ⟨p, hp, ht⟩ := turn_row (c := c) hw hf (by omega) hr0
    rw [ht] at hr
    cases hr
    unfold minusP at hx
    obtain ⟨⟨a, b⟩, hab, rfl⟩ := List.mem_map.mp hx
    have h1 := h i _ hi hr0 a (List.of_mem_zip hab).1
    have h2 := norm_sz (c := c) hf h f p (Nat.le_refl _) hp b (List.of_mem_zip hab).2
    have h3 := hq i (by omega) hlt
    have h4 : (E m i c / ((E m f c).natAbs : Nat) * b).natAbs ≤ Q * M := by
      rw [Int.natAbs_mul]
      exact Nat.mul_le_mul h3 h2
    simp only
    omega
theorem cond_ok {m m' : Mat} {f c : Nat} {s3 : Sl} {b : Bool} (h : g_put_least_ahead (matL m) [.int f, .int c] = some (.bool b, matL m')) : clearC (ce m f c s3 .no) = some (b, ce m' f c s3 .no) := by
  unfold clearC
  have := eCallM_ok (g := g_put_least_ahead) (a := aCons (eVar 0) (aCons (eVar 1) (aCons (eVar 2) aNil))) (env := ce m f c s3 .no) (e1 := ce m f c s3 .no) (e2 := ce m f c s3 .no) (i := 0) (rs := [.val (.int f), .val (.int c)]) (ds := [.int f, .int c]) (p := true) (c := matL m) (by simp) (by simp) rfl h
  rw [u_bV, this]
  rfl
theorem swap_E {m : Mat} {f l i c : Nat} (hf : f < m.length) (hl : l < m.length) : E (swapP m f l) i c = if i = l then E m f c else if i = f then E m l c else E m i c := by
  unfold E
  simp only [List.getD_eq_getElem?_getD, swap_get hf hl]
  split
  · rfl
  · split <;> rfl
theorem swap_len {m : Mat} {f l : Nat} : (swapP m f l).length = m.length := by
  unfold swapP
  simp
theorem swap_sz {m : Mat} {f l M : Nat} (hf : f < m.length) (hl : l < m.length) (hfl : f ≤ l) (h : Sz f M m) : Sz f M (swapP m f l) := by
  intro i r hi hr x hx
  rw [swap_get hf hl] at hr
  split at hr
  · exact h f r (Nat.le_refl _) hr x hx
  · split at hr
    · exact h l r hfl hr x hx
    · exact h i r hi hr x hx
/-- turns from the second on -/
theorem loop_ok {n f c b W : Nat} (hc : c < n) (hn : n < 1000000) (hb : W < 2 ^ b) (hbb : b + b < 134000000) : ∀ (L : Nat) (m : Mat) (M Lp : Nat) (s3 : Sl), Wd n m → f < m.length → m.length < 1000000 → E m f c = L → 0 < L → (∀ i, f < i → i < m.length → 0 ≤ E m i c ∧ E m i c < L) → Sz f M m → M * L * Lp ≤ W →
    (∃ i, f < i ∧ i < m.length ∧ E m i c ≠ 0 ∧ E m i c + L ≤ Lp) →
    ∃ N m' s3', whileF clearC clearB N (ce m f c s3 .no) = some (.ret (.bool true), ce m' f c s3' .no) ∧ Same n f m m' ∧ 0 < E m' f c ∧ (∀ i, f < i → i < m.length → E m' i c = 0) ∧ Sz f W m' := by
  intro L
  induction L using Nat.strongRecOn with
  | ind L ih =>
  intro m M Lp s3 hw hf hm hEf hL hlt hz hW hN
  obtain ⟨i0, i1, i2, i3, i4⟩ := hN
  rcases g_put_eq hw hc (Nat.le_of_lt hf) hm hn with ⟨h0, _⟩ | ⟨l, l1, l2, l3, l4, hput⟩
  · exact absurd (h0 i0 (by omega) i2) i3
  · have hi0 := l4 i0 (by omega) i2 i3
    have b0 := hlt i0 i1 i2
    have lf : l ≠ f := fun z => by
      subst z
      rw [hEf] at hi0
      omega
    have bl := hlt l (by omega) l2
    obtain ⟨L', hL'⟩ : ∃ L' : Nat, E m l c = L' := ⟨(E m l c).toNat, by omega⟩
    have p1 : 0 < L' := by omega
    have p2 : L' < L := by omega
    have p3 : L' + L ≤ Lp := by
      rw [hL'] at hi0
      omega
    -- the exchanged rows
    have hf1 : f < (swapP m f l).length := by rw [swap_len]; exact hf
    have sw := swap_same hw hf l2 l1
    have Ef : E (swapP m f l) f c = L' := by rw [swap_E hf l2, if_neg (Ne.symm lf), if_pos rfl, hL']
    have El : E (swapP m f l) l c = L := by rw [swap_E hf l2, if_pos rfl, hEf]
    have Eo : ∀ i, f < i → i < m.length → 0 ≤ E (swapP m f l) i c ∧ E (swapP m f l) i c ≤ L := fun i h1 h2 => by
      rw [swap_E hf l2]
      split
      · omega
      · rw [if_neg (by omega)]
        have := hlt i h1 h2
        omega
    have ne0 : E (swapP m f l) f c ≠ 0 := by omega
    have ea : (E (swapP m f l) f c).natAbs = L' := by omega
    have hsz1 := swap_sz hf l2 l1 hz
    -- sizes
    have hq : ∀ i, f < i → i < (swapP m f l).length → (E (swapP m f l) i c / ((E (swapP m f l) f c).natAbs : Nat)).natAbs ≤ L / L' := fun i h1 h2 => by
      rw [swap_len] at h2
      obtain ⟨g1, g2⟩ := Eo i h1 h2
      rw [ea]
      have h3 : E (swapP m f l) i c / (L' : Int) ≤ (L : Int) / (L' : Int) := Int.ediv_le_ediv (by omega) g2
      have h4 : 0 ≤ E (swapP m f l) i c / (L' : Int) := Int.ediv_nonneg g1 (by omega)
      have h5 : (L : Int) / (L' : Int) = ((L / L' : Nat) : Int) := rfl
      omega
    have hsz2 := turn_sz (c := c) sw.wd hf1 hsz1 hq
    have key : (M + L / L' * M) * L' ≤ M * Lp := by
      have h1 : L / L' * L' ≤ L := Nat.div_mul_le_self L L'
      have h2 : (M + L / L' * M) * L' = M * (L' + L / L' * L') := by grind
      rw [h2]
      exact Nat.mul_le_mul_left _ (by omega)
    have hW2 : (M + L / L' * M) * L' * L ≤ W := by
      have h1 := Nat.mul_le_mul_right L key
      have h2 : M * Lp * L = M * L * Lp := by grind
      omega
    have hM2 : M + L / L' * M ≤ W := by
      have h1 : (M + L / L' * M) * 1 * 1 ≤ (M + L / L' * M) * L' * L := Nat.mul_le_mul (Nat.mul_le_mul_left _ p1) hL
      omega
    have hMW : M ≤ W := Nat.le_trans (Nat.le_add_right _ _) hM2
    have hbody := body_ok (s3 := s3) sw.wd hc hf1 (by rw [swap_len]; exact hm) (Nat.le_of_lt hn) ne0 hsz1 (Nat.lt_of_le_of_lt hMW hb) hbb
    have hcond := cond_ok (s3 := s3) hput
    have ts := turn_same (c := c) sw.wd hf1
    have S2 := sw.trans ts
    have E2f : E (turnP (swapP m f l) f c) f c = L' := by rw [turn_E_f hf1, ea]
    have len2 : (turnP (swapP m f l) f c).length = m.length := by rw [turn_len, swap_len]
    have E2 : ∀ i, f < i → i < m.length → E (turnP (swapP m f l) f c) i c = E (swapP m f l) i c % (L' : Nat) := fun i h1 h2 => by rw [turn_E sw.wd hf1 h1 (by rw [swap_len]; exact h2), ea]
    have E2b : ∀ i, f < i → i < m.length → 0 ≤ E (turnP (swapP m f l) f c) i c ∧ E (turnP (swapP m f l) f c) i c < L' := fun i h1 h2 => by
      rw [E2 i h1 h2]
      exact ⟨Int.emod_nonneg _ (by omega), Int.emod_lt_of_pos _ (by omega)⟩
    cases hzb : zeroB (turnP (swapP m f l) f c) f c with
    | true =>
      rw [hzb, if_pos rfl] at hbody
      refine ⟨1, turnP (swapP m f l) f c, .val (.int ((E (swapP m f l) f c).natAbs : Nat)), ?_, S2, by rw [E2f]; omega, fun i h1 h2 => zeroB_true hzb i h1 (by rw [len2]; exact h2), fun i r h1 h2 x hx => Nat.le_trans (hsz2 i r h1 h2 x hx) hM2⟩
      simp only [whileF, hcond, Option.bind_some, if_true, hbody]
    | false =>
      rw [hzb, if_neg Bool.false_ne_true] at hbody
      obtain ⟨j0, j1, j2, j3⟩ := zeroB_false hzb
      rw [len2] at j2
      have hN2 : ∃ i, f < i ∧ i < (turnP (swapP m f l) f c).length ∧ E (turnP (swapP m f l) f c) i c ≠ 0 ∧ E (turnP (swapP m f l) f c) i c + L' ≤ L := by
        rw [len2]
        have e := E2 l (by omega) l2
        rw [El] at e
        have e' : (L : Int) % (L' : Int) = ((L % L' : Nat) : Int) := rfl
        rw [e'] at e
        have dm := Nat.div_add_mod L L'
        have dq : 1 ≤ L / L' := (Nat.le_div_iff_mul_le p1).mpr (by omega)
        by_cases h : L % L' = 0
        · have d2 : 2 ≤ L / L' := by
            rcases Nat.lt_or_ge (L / L') 2 with z | z
            · have : L / L' = 1 := by omega
              rw [this, h] at dm
              omega
            · exact z
          have d3 : L' * 2 ≤ L' * (L / L') := Nat.mul_le_mul_left _ d2
          have bj := E2b j0 j1 j2
          exact ⟨j0, j1, j2, j3, by omega⟩
        · have d3 : L' * 1 ≤ L' * (L / L') := Nat.mul_le_mul_left _ dq
          exact ⟨l, by omega, l2, by omega, by omega⟩
      obtain ⟨N, m', s3', h1, h2, h3, h4, h5⟩ := ih L' p2 (turnP (swapP m f l) f c) (M + L / L' * M) L (.val (.int ((E (swapP m f l) f c).natAbs : Nat))) ts.wd (by rw [len2]; exact hf) (by rw [len2]; exact hm) E2f p1 (fun i g1 g2 => E2b i g1 (by rw [← len2]; exact g2)) hsz2 hW2 hN2
      refine ⟨N + 1, m', s3', ?_, S2.trans h2, h3, fun i g1 g2 => h4 i g1 (by rw [len2]; exact g2), h5⟩
      simp only [whileF, hcond, Option.bind_some, if_true, hbody]
      exact h1
theorem E_sz {f M i c n : Nat} {m : Mat} (hw : Wd n m) (hc : c < n) (h : Sz f M m) (hi : f ≤ i) (hl : i < m.length) : (E m i c).natAbs ≤ M := by
  obtain ⟨r, x, hr, hx, he⟩ := E_get hw hl hc
  rw [he]
  exact h i r hi hr x (List.mem_of_getElem? hx)
theorem g_cleared_eq {m : Mat} {n f c M b : Nat} (hw : Wd n m) (hc : c < n) (hn : n < 1000000) (hf : f ≤ m.length) (hm : m.length < 1000000) (hz : Sz f M m) (hM : 1 ≤ M) (hb : 6 * (M * M * M) < 2 ^ b) (hbb : b + b < 134000000) :
    ((∀ i, f ≤ i → i < m.length → E m i c = 0) ∧ g_cleared (matL m) [.int f, .int c] = some (.bool false, matL m)) ∨
    ∃ m', f < m.length ∧ Same n f m m' ∧ 0 < E m' f c ∧ (∀ i, f < i → i < m.length → E m' i c = 0) ∧ Sz f (if f + 1 = m.length then M else 6 * (M * M * M)) m' ∧ g_cleared (matL m) [.int f, .int c] = some (.bool true, matL m') := by
  have hMM : M ≤ M * M * M := by
    have h1 : 1 * 1 * M ≤ M * M * M := Nat.mul_le_mul_right _ (Nat.mul_le_mul hM hM)
    omega
  rcases g_put_eq hw hc hf hm hn with ⟨h0, hput⟩ | ⟨l, l1, l2, l3, l4, hput⟩
  · left
    refine ⟨h0, ?_⟩
    have hcond := cond_ok (s3 := .no) hput
    have hwh : xWhile clearC clearB (ce m f c .no .no) = some (.nx, ce m f c .no .no) := xWhile_of (n := 1) (by simp only [whileF, hcond, Option.bind_some, Bool.false_eq_true, if_false])
    have hF : F_cleared (ce m f c .no .no) = some (.ret (.bool false), ce m f c .no .no) := by
      unfold F_cleared
      exact xSeq_nx hwh (xRet_ok (u_eC _) rfl)
    exact runM_ok rfl hF rfl
  · right
    have hf' : f < m.length := by omega
    have hf1 : f < (swapP m f l).length := by rw [swap_len]; exact hf'
    have sw := swap_same hw hf' l2 l1
    have Ef : E (swapP m f l) f c = E m l c := by
      rw [swap_E hf' l2]
      split
      · rename_i h
        rw [h]
      · rw [if_pos rfl]
    have ne0 : E (swapP m f l) f c ≠ 0 := by rw [Ef]; exact l3
    have hsz1 := swap_sz hf' l2 l1 hz
    have ts := turn_same (c := c) sw.wd hf1
    have S2 := sw.trans ts
    have len2 : (turnP (swapP m f l) f c).length = m.length := by rw [turn_len, swap_len]
    have hM2 : M < 2 ^ b := by omega
    have hbody := body_ok (s3 := .no) sw.wd hc hf1 (by rw [swap_len]; exact hm) (Nat.le_of_lt hn) ne0 hsz1 hM2 hbb
    have hcond := cond_ok (s3 := .no) hput
    obtain ⟨L, hL⟩ : ∃ L : Nat, L = (E (swapP m f l) f c).natAbs := ⟨_, rfl⟩
    have hL0 : 0 < L := by omega
    have hLM : L ≤ M := by
      rw [hL, Ef]
      exact E_sz hw hc hz l1 l2
    rw [← hL] at hbody
    have E2f : E (turnP (swapP m f l) f c) f c = L := by rw [turn_E_f hf1, hL]
    have fin : ∀ (N : Nat) (m' : Mat) (s3' : Sl), whileF clearC clearB N (ce m f c .no .no) = some (.ret (.bool true), ce m' f c s3' .no) → g_cleared (matL m) [.int f, .int c] = some (.bool true, matL m') := fun N m' s3' h => by
      have hF : F_cleared (ce m f c .no .no) = some (.ret (.bool true), ce m' f c s3' .no) := by
        unfold F_cleared
        exact xSeq_ret (xWhile_of h)
      exact runM_ok rfl hF rfl
    have hq : ∀ i, f < i → i < (swapP m f l).length → (E (swapP m f l) i c / ((E (swapP m f l) f c).natAbs : Nat)).natAbs ≤ M / L + 1 := fun i h1 h2 => by
      rw [← hL]
      have hx := E_sz sw.wd hc hsz1 (Nat.le_of_lt h1) h2
      have hdm : ((M / L : Nat) : Int) = (M : Int) / (L : Int) := rfl
      have a1 : E (swapP m f l) i c / (L : Int) ≤ (M : Int) / (L : Int) := Int.ediv_le_ediv (by omega) (by omega)
      have a2 : -((M / L : Nat) : Int) - 1 ≤ E (swapP m f l) i c / (L : Int) := by
        rw [Int.le_ediv_iff_mul_le (by omega)]
        have dm := Nat.div_add_mod M L
        have ml := Nat.mod_lt M hL0
        have e : (-((M / L : Nat) : Int) - 1) * (L : Int) = -((L * (M / L) : Nat) : Int) - L := by
          rw [Int.natCast_mul]
          grind
        rw [e]
        omega
      omega
    have hsz2 := turn_sz (c := c) sw.wd hf1 hsz1 hq
    have hML : (M + (M / L + 1) * M) * L ≤ 3 * (M * M) := by
      have h1 : M / L * L ≤ M := Nat.div_mul_le_self M L
      have h2 : (M + (M / L + 1) * M) * L = M * L + M * (M / L * L) + M * L := by grind
      have h3 : M * L ≤ M * M := Nat.mul_le_mul_left _ hLM
      have h4 : M * (M / L * L) ≤ M * M := Nat.mul_le_mul_left _ h1
      omega
    have hW : (M + (M / L + 1) * M) * L * (2 * L) ≤ 6 * (M * M * M) := by
      have h1 : (M + (M / L + 1) * M) * L * (2 * L) ≤ 3 * (M * M) * (2 * M) := Nat.mul_le_mul hML (Nat.mul_le_mul_left _ hLM)
      have h2 : 3 * (M * M) * (2 * M) = 6 * (M * M * M) := by grind
      omega
    have hM3 : M + (M / L + 1) * M ≤ 6 * (M * M * M) := by
      have h1 : (M + (M / L + 1) * M) * 1 * 1 ≤ (M + (M / L + 1) * M) * L * (2 * L) := Nat.mul_le_mul (Nat.mul_le_mul_left _ hL0) (by omega)
      omega
    cases hzb : zeroB (turnP (swapP m f l) f c) f c with
    | true =>
      rw [hzb, if_pos rfl] at hbody
      refine ⟨turnP (swapP m f l) f c, hf', S2, by rw [E2f]; omega, fun i h1 h2 => zeroB_true hzb i h1 (by rw [len2]; exact h2), ?_, fin 1 _ (.val (.int (L : Nat))) (by simp only [whileF, hcond, Option.bind_some, if_true, hbody])⟩
      split
      · rename_i h
        intro i r h1 h2 x hx
        have hlt := lt_of_get h2
        rw [len2] at hlt
        have : i = f := by omega
        subst this
        rw [turn_f hf1] at h2
        exact norm_sz (c := c) hf1 hsz1 i r h1 h2 x hx
      · exact fun i r h1 h2 x hx => Nat.le_trans (hsz2 i r h1 h2 x hx) hM3
    | false =>
      rw [hzb, if_neg Bool.false_ne_true] at hbody
      obtain ⟨j0, j1, j2, j3⟩ := zeroB_false hzb
      rw [len2] at j2
      have E2b : ∀ i, f < i → i < (turnP (swapP m f l) f c).length → 0 ≤ E (turnP (swapP m f l) f c) i c ∧ E (turnP (swapP m f l) f c) i c < L := fun i h1 h2 => by
        rw [turn_E sw.wd hf1 h1 (by rw [swap_len, ← len2]; exact h2), ← hL]
        exact ⟨Int.emod_nonneg _ (by omega), Int.emod_lt_of_pos _ (by omega)⟩
      have bj := E2b j0 j1 (by rw [len2]; exact j2)
      obtain ⟨N, m', s3', h1, h2, h3, h4, h5⟩ := loop_ok (b := b) hc hn hb hbb L (turnP (swapP m f l) f c) (M + (M / L + 1) * M) (2 * L) (.val (.int (L : Nat))) ts.wd (by rw [len2]; exact hf') (by rw [len2]; exact hm) E2f hL0 E2b hsz2 hW ⟨j0, j1, by rw [len2]; exact j2, j3, by omega⟩
      refine ⟨m', hf', S2.trans h2, h3, fun i g1 g2 => h4 i g1 (by rw [len2]; exact g2), ?_, fin (N + 1) m' s3' (by simp only [whileF, hcond, Option.bind_some, if_true, hbody]; exact h1)⟩
      rw [if_neg (by omega)]
      exact h5
end K52
set_option Elab.async false
set_option linter.all false
set_option maxRecDepth 100000
set_option maxHeartbeats 1000000
/-! leads_by. -/
namespace K52
open PySem PySem.Spec L2 Sm
theorem ech_snoc : ∀ {F : List Vec} {hs : List Nat} {p : Vec} {c : Nat}, Ech F hs → (∀ h ∈ hs, h < c) → (∀ j, j < c → p j = 0) → 0 < p c → Ech (F ++ [p]) (hs ++ [c])
  | [], [], p, c, _, _, h1, h2 => ⟨h1, h2, (fun g hg => absurd hg (by simp)), trivial⟩
  | f :: F, h :: hs, p, c, e, hl, h1, h2 => by
    refine ⟨e.1, e.2.1, fun g hg j hj => ?_, ech_snoc e.2.2.2 (fun k hk => hl k (List.mem_cons_of_mem _ hk)) h1 h2⟩
    rcases List.mem_append.mp hg with hg | hg
    · exact e.2.2.1 g hg j hj
    · rw [List.mem_singleton.mp hg]
      have := hl h List.mem_cons_self
      exact h1 j (by omega)
  | [], _ :: _, _, _, e, _, _, _ => e.elim
  | _ :: _, [], _, _, e, _, _, _ => e.elim
theorem T_mono {f f' : Nat} {m : Mat} (h : f' ≤ f) : ∀ u, T f m u → T f' m u := fun u ⟨i, r, h1, h2, h3⟩ => ⟨i, r, by omega, h2, h3⟩
theorem Same.down {n f f' : Nat} {m m' : Mat} (s : Same n f m m') (h : f' ≤ f) : Same n f' m m' := by
  refine ⟨s.len, s.wd, fun i hi => s.top i (by omega), fun v hv => hv.mono fun u hu => ?_, fun v hv => hv.mono fun u hu => ?_⟩
  · obtain ⟨i, r, h1, h2, rfl⟩ := hu
    rcases Nat.lt_or_ge i f with z | z
    · exact .of ⟨i, r, h1, by rw [s.top i z]; exact h2, rfl⟩
    · exact (s.to _ (.of ⟨i, r, z, h2, rfl⟩)).mono fun u hu => .of (T_mono h u hu)
  · obtain ⟨i, r, h1, h2, rfl⟩ := hu
    rcases Nat.lt_or_ge i f with z | z
    · exact .of ⟨i, r, h1, by rw [← s.top i z]; exact h2, rfl⟩
    · exact (s.from' _ (.of ⟨i, r, z, h2, rfl⟩)).mono fun u hu => .of (T_mono h u hu)
def grow (M : Nat) : Nat := 6 * (M * M * M)
def growN : Nat → Nat → Nat
  | 0, M => M
  | j + 1, M => grow (growN j M)
theorem grow_le {M : Nat} (h : 1 ≤ M) : M ≤ grow M := by
  unfold grow
  have h1 : 1 * 1 * M ≤ M * M * M := Nat.mul_le_mul_right _ (Nat.mul_le_mul h h)
  omega
theorem growN_one {M : Nat} (h : 1 ≤ M) : ∀ j, 1 ≤ growN j M
  | 0 => h
  | j + 1 => Nat.le_trans (growN_one h j) (grow_le (growN_one h j))
theorem growN_mono {M : Nat} (h : 1 ≤ M) {i : Nat} : ∀ {j : Nat}, i ≤ j → growN i M ≤ growN j M
  | 0, hij => by
    have : i = 0 := by omega
    subst this
    exact Nat.le_refl _
  | j + 1, hij => by
    by_cases e : i = j + 1
    · rw [e]
      exact Nat.le_refl _
    · exact Nat.le_trans (growN_mono h (by omega : i ≤ j)) (grow_le (growN_one h j))
theorem Sz.mono {f M M' : Nat} {m : Mat} (h : Sz f M m) (hM : M ≤ M') : Sz f M' m := fun i r h1 h2 x hx => Nat.le_trans (h i r h1 h2 x hx) hM
def hdL (hs : List Nat) : D := .list (hs.map fun h => PyData.int ((h : Nat) : Int))
/-- how rows stand when the columns before col are done: the first rows step down, the others have nothing there -/
structure Upto (n : Nat) (m : Mat) (M col : Nat) (m' : Mat) (found : List Nat) : Prop where
  same : Same n 0 m m'
  le : found.length ≤ m.length
  ech : Ech ((m'.take found.length).map vec) found
  lt : ∀ h ∈ found, h < col
  rest : ∀ i r, found.length ≤ i → m'[i]? = some r → ∀ j, j < col → vec r j = 0
  sz : Sz 0 (growN (min found.length (m.length - 1)) M) m'
theorem take_succ' {m : Mat} {p : Nat} {r : Row} (h : m[p]? = some r) : m.take (p + 1) = m.take p ++ [r] := by
  rw [List.take_add_one, h]
  rfl
theorem upto_no {n col M : Nat} {m m' : Mat} {found : List Nat} (U : Upto n m M col m' found) (hc : col < n) (h : ∀ i, found.length ≤ i → i < m'.length → E m' i col = 0) : Upto n m M (col + 1) m' found := by
  refine ⟨U.same, U.le, U.ech, fun k hk => Nat.lt_succ_of_lt (U.lt k hk), fun i r h1 h2 j hj => ?_, U.sz⟩
  by_cases e : j = col
  · subst e
    have := h i h1 (lt_of_get h2)
    rw [E_of h2] at this
    exact this
  · exact U.rest i r h1 h2 j (by omega)
theorem upto_yes {n col M : Nat} {m m' m'' : Mat} {found : List Nat} (U : Upto n m M col m' found) (hM : 1 ≤ M) (hf : found.length < m'.length) (S : Same n found.length m' m'') (hp : 0 < E m'' found.length col) (hz : ∀ i, found.length < i → i < m'.length → E m'' i col = 0)
    (hs : Sz found.length (if found.length + 1 = m'.length then growN (min found.length (m.length - 1)) M else grow (growN (min found.length (m.length - 1)) M)) m'') : Upto n m M (col + 1) m'' (found ++ [col]) := by
  have zr : ∀ i r, found.length ≤ i → m''[i]? = some r → ∀ j, j < col → vec r j = 0 := fun i r h1 h2 j hj => by
    refine (S.from' _ (.of ⟨i, r, h1, h2, rfl⟩)).zero_at fun u hu => ?_
    obtain ⟨i', r', g1, g2, rfl⟩ := hu
    exact U.rest i' r' g1 g2 j hj
  have hml : m'.length = m.length := U.same.len
  have hf2 : found.length < m''.length := by rw [S.len]; exact hf
  have hr : m''[found.length]? = some m''[found.length] := List.getElem?_eq_getElem hf2
  have tk : m''.take found.length = m'.take found.length := by
    apply List.ext_getElem?
    intro i
    rw [List.getElem?_take, List.getElem?_take]
    split
    · rename_i h
      exact S.top i h
    · rfl
  refine ⟨U.same.trans (S.down (Nat.zero_le _)), by rw [List.length_append, List.length_singleton]; omega, ?_, fun h hh => ?_, fun i r h1 h2 j hj => ?_, fun i r h1 h2 x hx => ?_⟩
  · rw [List.length_append, List.length_singleton, take_succ' hr, List.map_append, tk]
    refine ech_snoc U.ech U.lt (fun j hj => zr _ _ (Nat.le_refl _) hr j hj) ?_
    rw [E_of hr] at hp
    exact hp
  · rcases List.mem_append.mp hh with hh | hh
    · exact Nat.lt_succ_of_lt (U.lt h hh)
    · rw [List.mem_singleton.mp hh]
      exact Nat.lt_succ_self _
  · rw [List.length_append, List.length_singleton] at h1
    by_cases e : j = col
    · subst e
      have hlt := lt_of_get h2
      rw [S.len] at hlt
      have := hz i (by omega) hlt
      rw [E_of h2] at this
      exact this
    · exact zr i r (by omega) h2 j (by omega)
  · rw [List.length_append, List.length_singleton]
    have up : growN (min found.length (m.length - 1)) M ≤ growN (min (found.length + 1) (m.length - 1)) M := growN_mono hM (by omega)
    rcases Nat.lt_or_ge i found.length with z | z
    · exact Nat.le_trans (U.sz i r h1 (by rw [← S.top i z]; exact h2) x hx) up
    · have b := hs i r z h2 x hx
      split at b
      · exact Nat.le_trans b up
      · rename_i hne
        have e : min (found.length + 1) (m.length - 1) = min found.length (m.length - 1) + 1 := by omega
        rw [e]
        exact b
abbrev le (m : Mat) (k : Nat) (found : List Nat) (s3 : Sl) : Env' := [.own true (matL m), .val (.int (k : Nat)), .own false (hdL found), s3]
theorem g_leads_eq {m : Mat} {n k M b G : Nat} (hw : Wd n m) (hk : k ≤ n) (hn : n < 1000000) (hm : m.length < 1000000) (hz : Sz 0 M m) (hM : 1 ≤ M) (hG : min k m.length ≤ G) (hG1 : 1 ≤ G) (hb : growN G M < 2 ^ b) (hbb : b + b < 134000000) :
    ∃ m' found, Upto n m M k m' found ∧ g_leads_by (matL m) [.int k] = some (hdL found, matL m') := by
  have s1 : xSet 2 (eLst aNil) [.own true (matL m), .val (.int (k : Nat)), .no, .no] = some (.nx, le m k [] .no) := xSet_ok (r := .fr (.list [])) (e1 := [.own true (matL m), .val (.int (k : Nat)), .no, .no]) (by simp) rfl (by simp)
  have hr := rng1 (a := aCons (eVar 1) aNil) (env := le m k [] .no) (e := le m k [] .no) (n := k) (by simp) (by omega)
  have U0 : Upto n m M 0 m [] := by
    refine ⟨.refl hw, Nat.zero_le _, trivial, fun h hh => absurd hh (by simp), fun i r _ _ j hj => absurd hj (Nat.not_lt_zero j), ?_⟩
    have : min ([] : List Nat).length (m.length - 1) = 0 := by simp
    rw [this]
    exact hz
  obtain ⟨env', h1, m', found, s3, he, hU⟩ := for_ok hr (I := fun col env => ∃ m' found s3, env = le m' k found s3 ∧ Upto n m M col m' found) ⟨m, [], .no, rfl, U0⟩ (g := gN 3) (F := xIf (bV (eCallM g_cleared (aCons (eVar 0) (aCons (eCb pLen (aCons (eVar 2) aNil)) (aCons (eVar 3) aNil))))) (xEx (eMeth 2 pmAppend (aCons (eVar 3) aNil))) xNx) (fun col env d hI hd => by
    obtain ⟨m', found, s3, rfl, U⟩ := hI
    rw [List.getElem?_map, Option.map_eq_some_iff] at hd
    obtain ⟨j', hj, rfl⟩ := hd
    have hlt := lt_of_get hj
    rw [List.length_range] at hlt
    rw [List.getElem?_range hlt] at hj
    cases hj
    have hml : m'.length = m.length := U.same.len
    let e4 : Env' := le m' k found (.val (.int (col : Nat)))
    have pk : found.length ≤ col := by
      -- heads are less than col and grow
      have gen : ∀ {F : List Vec} {hs : List Nat} {a : Nat}, Ech F hs → (∀ h ∈ hs, a ≤ h) → (∀ h ∈ hs, h < col) → a ≤ col → hs.length + a ≤ col := fun {F} => by
        induction F with
        | nil =>
          intro hs a e _ _ ha
          cases hs with
          | nil => simpa using ha
          | cons h hs => exact e.elim
        | cons f F ih =>
          intro hs a e hl hu ha
          cases hs with
          | nil => exact e.elim
          | cons h hs =>
            have h1 := hl h List.mem_cons_self
            have h2 := hu h List.mem_cons_self
            have := ih (hs := hs) (a := h + 1) e.2.2.2 (fun k hk => ?_) (fun k hk => hu k (List.mem_cons_of_mem _ hk)) (by omega)
            · simp only [List.length_cons]
              omega
            · -- the later heads lie behind h
              have lt' : ∀ {F : List Vec} {hs : List Nat}, Ech F hs → (∀ g ∈ F, ∀ j, j ≤ h → g j = 0) → ∀ k ∈ hs, h + 1 ≤ k := fun {F} => by
                induction F with
                | nil =>
                  intro hs e _ k hk
                  cases hs with
                  | nil => cases hk
                  | cons _ _ => exact e.elim
                | cons g F ih2 =>
                  intro hs e hzz k hk
                  cases hs with
                  | nil => exact e.elim
                  | cons h' hs =>
                    rcases List.mem_cons.mp hk with rfl | hk
                    · rcases Nat.lt_or_ge h k with z | z
                      · exact z
                      · have := hzz g List.mem_cons_self k z
                        have := e.2.1
                        omega
                    · exact ih2 e.2.2.2 (fun g' hg' => hzz g' (List.mem_cons_of_mem _ hg')) k hk
              exact lt' e.2.2.2 e.2.2.1 k hk
      have := gen U.ech (a := 0) (fun _ _ => Nat.zero_le _) U.lt (Nat.zero_le _)
      omega
    have hM' : 1 ≤ growN (min found.length (m.length - 1)) M := growN_one hM _
    have hgb : 6 * (growN (min found.length (m.length - 1)) M * growN (min found.length (m.length - 1)) M * growN (min found.length (m.length - 1)) M) < 2 ^ b := by
      have : growN (min found.length (m.length - 1) + 1) M ≤ growN G M := growN_mono hM (by omega)
      exact Nat.lt_of_le_of_lt this hb
    have hargs : aCons (eVar 0) (aCons (eCb pLen (aCons (eVar 2) aNil)) (aCons (eVar 3) aNil)) e4 = some ([.var 0, .val (.int (found.length : Nat)), .val (.int (col : Nat))], e4) := by
      simp [e4, hdL]
    have hcall : ∀ (bb : Bool) (m2 : Mat), g_cleared (matL m') [.int (found.length : Nat), .int (col : Nat)] = some (.bool bb, matL m2) → bV (eCallM g_cleared (aCons (eVar 0) (aCons (eCb pLen (aCons (eVar 2) aNil)) (aCons (eVar 3) aNil)))) e4 = some (bb, le m2 k found (.val (.int (col : Nat)))) := fun bb m2 h => by
      rw [u_bV, eCallM_ok hargs (e2 := e4) (ds := [.int (found.length : Nat), .int (col : Nat)]) rfl rfl h]
      rfl
    have szf : Sz found.length (growN (min found.length (m.length - 1)) M) m' := fun i r h1 => U.sz i r (Nat.zero_le _)
    rcases g_cleared_eq U.same.wd (show col < n by omega) hn (by rw [hml]; exact U.le) (by rw [hml]; exact hm) szf hM' hgb hbb with ⟨h0, hg⟩ | ⟨m'', c0, c1, c2, c3, c4, hg⟩
    · exact ⟨e4, le m' k found (.val (.int (col : Nat))), rfl, .inl (xIf_f (hcall _ _ hg) rfl), m', found, _, rfl, upto_no U (by omega) h0⟩
    · refine ⟨e4, le m'' k (found ++ [col]) (.val (.int (col : Nat))), rfl, .inl (xIf_t (hcall _ _ hg) ?_), m'', found ++ [col], _, rfl, upto_yes U hM c0 c1 c2 c3 c4⟩
      have hl : found.length < 1000000 := by omega
      have e : hdL (found ++ [col]) = .list (found.map (fun h => PyData.int ((h : Nat) : Int)) ++ [.int (col : Nat)]) := by
        unfold hdL
        rw [List.map_append]
        rfl
      simp only [le, e]
      simp [hdL, pmAppend, hl])
  rw [List.length_map, List.length_range] at hU
  subst he
  refine ⟨m', found, hU, ?_⟩
  have hF : F_leads_by [.own true (matL m), .val (.int (k : Nat)), .no, .no] = some (.ret (hdL found), [.own true (matL m'), .val (.int (k : Nat)), .val (hdL found), s3]) := by
    unfold F_leads_by
    exact xSeq_nx s1 (xSeq_nx h1 (xRet_ok (r := .var 2) (e1 := le m' k found s3) (by simp) (by simp)))
  exact runM_ok rfl hF rfl
end K52
set_option linter.all false
/-! The forms told by places. -/
namespace K52
def EchI (F : List Vec) (hs : List Nat) : Prop := F.length = hs.length ∧ ∀ (i : Nat) (f : Vec) (h : Nat), F[i]? = some f → hs[i]? = some h → (∀ j, j < h → f j = 0) ∧ 0 < f h ∧ ∀ (i' : Nat) (g : Vec), i < i' → F[i']? = some g → ∀ j, j ≤ h → g j = 0
def RedI (F : List Vec) (hs : List Nat) : Prop := ∀ (i j : Nat) (f g : Vec) (k : Nat), i < j → F[i]? = some f → F[j]? = some g → hs[j]? = some k → 0 ≤ f k ∧ f k < g k
theorem ech_to : ∀ {F : List Vec} {hs : List Nat}, Ech F hs → EchI F hs
  | [], [], _ => ⟨rfl, fun i f h e => by simp at e⟩
  | f :: F, h :: hs, e => by
    obtain ⟨l, ih⟩ := ech_to e.2.2.2
    refine ⟨by simp [l], fun i f' h' e1 e2 => ?_⟩
    cases i with
    | zero =>
      cases e1
      cases e2
      refine ⟨e.1, e.2.1, fun i' g hi e3 j hj => ?_⟩
      cases i' with
      | zero => omega
      | succ i' => exact e.2.2.1 g (List.mem_of_getElem? (by simpa using e3)) j hj
    | succ i =>
      obtain ⟨a, b, c⟩ := ih i f' h' (by simpa using e1) (by simpa using e2)
      refine ⟨a, b, fun i' g hi e3 j hj => ?_⟩
      cases i' with
      | zero => omega
      | succ i' => exact c i' g (by omega) (by simpa using e3) j hj
  | [], _ :: _, e => e.elim
  | _ :: _, [], e => e.elim
theorem ech_of : ∀ {F : List Vec} {hs : List Nat}, EchI F hs → Ech F hs
  | [], [], _ => trivial
  | f :: F, h :: hs, ⟨l, e⟩ => by
    obtain ⟨a, b, c⟩ := e 0 f h rfl rfl
    refine ⟨a, b, fun g hg j hj => ?_, ech_of ⟨by simpa using l, fun i f' h' e1 e2 => ?_⟩⟩
    · obtain ⟨i, hi⟩ := List.getElem?_of_mem hg
      exact c (i + 1) g (by omega) (by simpa using hi) j hj
    · obtain ⟨a', b', c'⟩ := e (i + 1) f' h' (by simpa using e1) (by simpa using e2)
      exact ⟨a', b', fun i' g hi e3 j hj => c' (i' + 1) g (by omega) (by simpa using e3) j hj⟩
  | [], _ :: _, ⟨l, _⟩ => by simp at l
  | _ :: _, [], ⟨l, _⟩ => by simp at l
theorem red_of : ∀ {F : List Vec} {hs : List Nat}, RedI F hs → Red F hs
  | [], _, _ => trivial
  | _ :: _, [], _ => trivial
  | f :: F, h :: hs, e => by
    refine ⟨fun p hp => ?_, red_of fun i j f' g k hij e1 e2 e3 => e (i + 1) (j + 1) f' g k (by omega) (by simpa using e1) (by simpa using e2) (by simpa using e3)⟩
    obtain ⟨i, hi⟩ := List.getElem?_of_mem hp
    obtain ⟨h1, h2⟩ := List.getElem?_zip_eq_some.mp hi
    exact e 0 (i + 1) f p.1 p.2 (by omega) rfl (by simpa using h1) (by simpa using h2)
theorem red_to : ∀ {F : List Vec} {hs : List Nat}, Red F hs → RedI F hs
  | [], _, _ => fun i j f g k _ e => by simp at e
  | _ :: _, [], _ => fun i j f g k _ _ _ e => by simp at e
  | f :: F, h :: hs, e => fun i j f' g k hij e1 e2 e3 => by
    cases j with
    | zero => omega
    | succ j =>
      cases i with
      | zero =>
        cases e1
        exact e.1 (g, k) (List.mem_of_getElem? (i := j) (List.getElem?_zip_eq_some.mpr ⟨by simpa using e2, by simpa using e3⟩))
      | succ i => exact red_to e.2 i j f' g k (by omega) (by simpa using e1) (by simpa using e2) (by simpa using e3)
end K52
set_option Elab.async false
set_option linter.all false
set_option maxRecDepth 100000
set_option maxHeartbeats 1000000
/-! plain_form: the reduction above the heads. -/
namespace K52
open PySem PySem.Spec L2 Sm
/-- the first k rows reduced by row a, which lies behind them -/
def backP (m : Mat) (a c k : Nat) : Mat := m.mapIdx fun i r => if i < k then minusP r (m.getD a []) (r.getD c 0 / E m a c) else r
theorem back_get {m : Mat} {a c k : Nat} (i : Nat) : (backP m a c k)[i]? = (m[i]?).map fun r => if i < k then minusP r (m.getD a []) (r.getD c 0 / E m a c) else r := by
  unfold backP
  rw [List.getElem?_mapIdx]
theorem back_len {m : Mat} {a c k : Nat} : (backP m a c k).length = m.length := by
  unfold backP
  simp
theorem back_same {n : Nat} {m : Mat} {a c k : Nat} {p : Row} (hw : Wd n m) (hp : m[a]? = some p) (hk : k ≤ a) : Same n 0 m (backP m a c k) := by
  have hpd : m.getD a [] = p := by rw [List.getD_eq_getElem?_getD, hp]; rfl
  have g : ∀ i, (backP m a c k)[i]? = (m[i]?).map fun r => if i < k then minusP r p (r.getD c 0 / E m a c) else r := fun i => by rw [back_get, hpd]
  have gp : (backP m a c k)[a]? = some p := by rw [g, hp, Option.map_some, if_neg (by omega)]
  have lp := hw.get hp
  refine ⟨back_len, fun r' hr' => ?_, fun i hi => absurd hi (Nat.not_lt_zero i), fun v h => h.mono fun u hu => ?_, fun v h => h.mono fun u hu => ?_⟩
  · obtain ⟨i, hi⟩ := List.getElem?_of_mem hr'
    rw [g, Option.map_eq_some_iff] at hi
    obtain ⟨r, hr, rfl⟩ := hi
    split
    · rw [minus_len (by rw [lp, hw.get hr])]
      exact hw.get hr
    · exact hw.get hr
  · obtain ⟨i, r, h1, h2, rfl⟩ := hu
    by_cases e : i < k
    · have x := Lat.of (S := T 0 (backP m a c k)) ⟨i, _, h1, by rw [g, h2, Option.map_some, if_pos e], rfl⟩
      have y := Lat.of (S := T 0 (backP m a c k)) ⟨a, p, Nat.zero_le _, gp, rfl⟩
      have := x.axpy (r.getD c 0 / E m a c) y
      rw [vec_minus (by rw [lp, hw.get h2])] at this
      have e2 : (fun j => (fun j => vec r j + -(r.getD c 0 / E m a c) * vec p j) j + (r.getD c 0 / E m a c) * vec p j) = vec r := by
        funext j
        grind
      rw [e2] at this
      exact this
    · exact .of ⟨i, r, h1, by rw [g, h2, Option.map_some, if_neg e], rfl⟩
  · obtain ⟨i, r', h1, h2, rfl⟩ := hu
    rw [g, Option.map_eq_some_iff] at h2
    obtain ⟨r, hr, rfl⟩ := h2
    have x := Lat.of (S := T 0 m) ⟨i, r, h1, hr, rfl⟩
    split
    · have y := Lat.of (S := T 0 m) ⟨a, p, Nat.zero_le _, hp, rfl⟩
      rw [vec_minus (by rw [lp, hw.get hr])]
      exact x.axpy _ y
    · exact x
/-- rows that step down, the first a of them reduced among themselves -/
structure Back (n : Nat) (m : Mat) (M a : Nat) (m' : Mat) (hs : List Nat) : Prop where
  same : Same n 0 m m'
  le : hs.length ≤ m.length
  ech : EchI ((m'.take hs.length).map vec) hs
  lt : ∀ h ∈ hs, h < n
  rest : ∀ i r, hs.length ≤ i → m'[i]? = some r → vec r = fun _ => 0
  red : ∀ i j r s k, i < j → j < a → m'[i]? = some r → m'[j]? = some s → hs[j]? = some k → 0 ≤ vec r k ∧ vec r k < vec s k
  lo : ∀ i r, a ≤ i → m'[i]? = some r → ∀ x ∈ r, x.natAbs ≤ M
  hi : ∀ i r, i < a → m'[i]? = some r → ∀ x ∈ r, x.natAbs ≤ M * (1 + M) ^ a
theorem tk_get {m : Mat} {p i : Nat} {r : Row} (hi : i < p) (h : m[i]? = some r) : ((m.take p).map vec)[i]? = some (vec r) := by
  rw [List.getElem?_map, List.getElem?_take, if_pos hi, h]
  rfl
theorem tk_inv {m : Mat} {p i : Nat} {f : Vec} (h : ((m.take p).map vec)[i]? = some f) : i < p ∧ ∃ r, m[i]? = some r ∧ f = vec r := by
  rw [List.getElem?_map, List.getElem?_take] at h
  split at h
  · rename_i hi
    cases hr : m[i]? with
    | none => rw [hr] at h; cases h
    | some r =>
      rw [hr] at h
      cases h
      exact ⟨hi, r, rfl, rfl⟩
  · cases h
theorem back_step {n : Nat} {m : Mat} {M a : Nat} {m' : Mat} {hs : List Nat} {c : Nat} (B : Back n m M a m' hs) (hM : 1 ≤ M) (hc : hs[a]? = some c) : Back n m M (a + 1) (backP m' a c a) hs := by
  have ha : a < hs.length := lt_of_get hc
  have hml : m'.length = m.length := B.same.len
  have hal : a < m'.length := by have := B.le; omega
  obtain ⟨p, hp⟩ : ∃ p, m'[a]? = some p := ⟨_, List.getElem?_eq_getElem hal⟩
  have hpd : m'.getD a [] = p := by rw [List.getD_eq_getElem?_getD, hp]; rfl
  have g : ∀ i, (backP m' a c a)[i]? = (m'[i]?).map fun r => if i < a then minusP r p (r.getD c 0 / E m' a c) else r := fun i => by rw [back_get, hpd]
  have S := back_same (c := c) (k := a) B.same.wd hp (Nat.le_refl _)
  have lp := B.same.wd.get hp
  obtain ⟨eL, eI⟩ := B.ech
  -- row a: nothing at earlier heads, positive at its own
  obtain ⟨pa, pb, _⟩ := eI a (vec p) c (tk_get ha hp) hc
  have pz : ∀ i h, i < a → hs[i]? = some h → ∀ j, j ≤ h → vec p j = 0 := fun i h hi hh j hj => by
    obtain ⟨r, hr⟩ : ∃ r, m'[i]? = some r := ⟨_, List.getElem?_eq_getElem (by omega)⟩
    exact (eI i (vec r) h (tk_get (by omega) hr) hh).2.2 a (vec p) hi (tk_get ha hp) j hj
  -- rows of the new, by the old
  have row : ∀ i r', (backP m' a c a)[i]? = some r' → ∃ r, m'[i]? = some r ∧ ((i < a ∧ ∃ t, vec r' = fun j => vec r j + -t * vec p j) ∨ (a ≤ i ∧ r' = r)) := fun i r' h => by
    rw [g, Option.map_eq_some_iff] at h
    obtain ⟨r, hr, rfl⟩ := h
    refine ⟨r, hr, ?_⟩
    by_cases hi : i < a
    · rw [if_pos hi]
      exact .inl ⟨hi, _, vec_minus (by rw [lp, B.same.wd.get hr])⟩
    · rw [if_neg hi]
      exact .inr ⟨by omega, rfl⟩
  refine ⟨B.same.trans S, B.le, ⟨by rw [← eL]; simp [back_len], fun i f h e1 e2 => ?_⟩, B.lt, fun i r h1 h2 => ?_, fun i j r s k hij hj e1 e2 e3 => ?_, fun i r h1 h2 x hx => ?_, fun i r h1 h2 x hx => ?_⟩
  · obtain ⟨hi, r', hr', rfl⟩ := tk_inv e1
    obtain ⟨r, hr, hcase⟩ := row i r' hr'
    obtain ⟨a1, a2, a3⟩ := eI i (vec r) h (tk_get hi hr) e2
    have later : ∀ (i' : Nat) (g' : Vec), i < i' → (((backP m' a c a).take hs.length).map vec)[i']? = some g' → ∀ j, j ≤ h → g' j = 0 := fun i' g' hii e3 j hj => by
      obtain ⟨hi', s', hs', rfl⟩ := tk_inv e3
      obtain ⟨s, hs1, hc2⟩ := row i' s' hs'
      have z := a3 i' (vec s) hii (tk_get hi' hs1) j hj
      rcases hc2 with ⟨hia, t, ht⟩ | ⟨_, rfl⟩
      · have zp := pz i h (by omega) e2 j hj
        rw [ht]
        simp only [z, zp]
        omega
      · exact z
    rcases hcase with ⟨hia, t, ht⟩ | ⟨_, rfl⟩
    · refine ⟨fun j hj => ?_, ?_, later⟩
      · rw [ht]
        have := a1 j hj
        have zp := pz i h hia e2 j (Nat.le_of_lt hj)
        simp only [this, zp]
        omega
      · rw [ht]
        have zp := pz i h hia e2 h (Nat.le_refl _)
        simp only [zp]
        omega
    · exact ⟨a1, a2, later⟩
  · obtain ⟨r0, hr, hcase⟩ := row i r h2
    rcases hcase with ⟨hia, _⟩ | ⟨_, rfl⟩
    · omega
    · exact B.rest i r h1 hr
  · obtain ⟨r0, hr, hc1⟩ := row i r e1
    obtain ⟨s0, hs0, hc2⟩ := row j s e2
    rcases Nat.lt_or_ge j a with z | z
    · -- both among the first
      have zp := pz j k z e3 k (Nat.le_refl _)
      have b := B.red i j r0 s0 k hij z hr hs0 e3
      rcases hc1 with ⟨_, t, ht⟩ | ⟨h9, _⟩
      · rcases hc2 with ⟨_, t2, ht2⟩ | ⟨h9, _⟩
        · rw [ht, ht2]
          simp only [zp]
          omega
        · omega
      · omega
    · have : j = a := by omega
      subst this
      rw [hc] at e3
      cases e3
      rcases hc2 with ⟨h9, _⟩ | ⟨_, rfl⟩
      · omega
      · rw [hp] at hs0
        cases hs0
        rw [g, hr, Option.map_some, if_pos (by omega)] at e1
        cases e1
        have el : E m' j c = vec p c := by rw [E_of hp]; rfl
        rw [vec_minus (by rw [lp, B.same.wd.get hr])]
        have e9 : r0.getD c 0 = vec r0 c := rfl
        rw [e9, el]
        have h1 := Int.emod_nonneg (vec r0 c) (show vec p c ≠ 0 by omega)
        have h2 := Int.emod_lt_of_pos (vec r0 c) pb
        rw [Int.emod_def] at h1 h2
        have e10 : vec r0 c + -(vec r0 c / vec p c) * vec p c = vec r0 c - vec p c * (vec r0 c / vec p c) := by grind
        simp only [e10]
        exact ⟨h1, h2⟩
  · obtain ⟨r0, hr, hcase⟩ := row i r h2
    rcases hcase with ⟨hia, _⟩ | ⟨_, rfl⟩
    · omega
    · exact B.lo i r (by omega) hr x hx
  · rw [g, Option.map_eq_some_iff] at h2
    obtain ⟨r0, hr, rfl⟩ := h2
    have big : M ≤ M * (1 + M) ^ (a + 1) := Nat.le_mul_of_pos_right _ (Nat.pow_pos (by omega))
    by_cases hi : i < a
    · rw [if_pos hi] at hx
      unfold minusP at hx
      obtain ⟨⟨y, z⟩, hyz, rfl⟩ := List.mem_map.mp hx
      have b1 := B.hi i r0 hi hr y (List.of_mem_zip hyz).1
      have b2 := B.lo a p (Nat.le_refl _) hp z (List.of_mem_zip hyz).2
      have b3 : (r0.getD c 0 / E m' a c).natAbs ≤ M * (1 + M) ^ a := by
        refine Nat.le_trans (div_abs _ _) ?_
        rw [List.getD_eq_getElem?_getD]
        cases hx0 : r0[c]? with
        | none => simp
        | some w => exact B.hi i r0 hi hr w (List.mem_of_getElem? hx0)
      have b4 : (r0.getD c 0 / E m' a c * z).natAbs ≤ M * (1 + M) ^ a * M := by
        rw [Int.natAbs_mul]
        exact Nat.mul_le_mul b3 b2
      have e : M * (1 + M) ^ (a + 1) = M * (1 + M) ^ a + M * (1 + M) ^ a * M := by
        rw [Nat.pow_succ]
        grind
      rw [e]
      simp only
      omega
    · rw [if_neg hi] at hx
      have : i = a := by omega
      subst this
      exact Nat.le_trans (B.lo i r0 (Nat.le_refl _) hr x hx) big
end K52
set_option Elab.async false
set_option linter.all false
set_option maxRecDepth 100000
set_option maxHeartbeats 1000000
/-! plain_form. -/
namespace K52
open PySem PySem.Spec L2 Sm
/-- rows as data: lists or tuples of lists or tuples -/
def MatD (m : Mat) (d : D) : Prop := ∃ A : Row → D, (∀ r, RowD r (A r)) ∧ seqOf d = some (m.map A)
theorem lSeq_ok {f : Ev} {env e1 e2 : Env'} {r : R} {d : D} {ds : List D} (h1 : f env = some (r, e1)) (h2 : frz e1 r = some (d, e2)) (h3 : seqOf d = some ds) : lSeq f env = some (ds, e2) := by
  unfold seqOf at h3
  simp only [lSeq, h1, h2, Option.bind_some]
  split at h3
  · cases h3; rfl
  · cases h3; rfl
  · cases h3
theorem ech_heads : ∀ {F : List Vec} {hs : List Nat} {a n : Nat}, Ech F hs → (∀ h ∈ hs, a ≤ h) → (∀ h ∈ hs, h < n) → a ≤ n → hs.length + a ≤ n
  | [], [], a, n, _, _, _, ha => by simpa using ha
  | f :: F, h :: hs, a, n, e, hl, hu, ha => by
    have h1 := hl h List.mem_cons_self
    have h2 := hu h List.mem_cons_self
    have := ech_heads (a := h + 1) (n := n) e.2.2.2 (fun k hk => by
      obtain ⟨l, eI⟩ := ech_to (show Ech (f :: F) (h :: hs) from e)
      obtain ⟨i, hi⟩ := List.getElem?_of_mem hk
      have hiF : i < F.length := by
        have := lt_of_get hi
        simp at l
        omega
      have z := (eI 0 f h rfl rfl).2.2 (i + 1) F[i] (by omega) (by simp [List.getElem?_eq_getElem hiF])
      have p := (eI (i + 1) F[i] k (by simp [List.getElem?_eq_getElem hiF]) (by simpa using hi)).2.1
      rcases Nat.lt_or_ge h k with y | y
      · exact y
      · have := z k y
        omega) (fun k hk => hu k (List.mem_cons_of_mem _ hk)) (by omega)
    simp only [List.length_cons]
    omega
  | [], _ :: _, _, _, e, _, _, _ => e.elim
  | _ :: _, [], _, _, e, _, _, _ => e.elim
/-- the plain form of the rows m -/
structure Hnf (n : Nat) (m F : Mat) (hs : List Nat) : Prop where
  ech : Ech (F.map vec) hs
  red : Red (F.map vec) hs
  wd : Wd n F
  lt : ∀ h ∈ hs, h < n
  le : F.length ≤ m.length
  to : ∀ v, Lat (T 0 m) v → LatL (F.map vec) v
  from' : ∀ v, LatL (F.map vec) v → Lat (T 0 m) v
theorem upto_back {n M : Nat} {m m' : Mat} {found : List Nat} (hM : 1 ≤ M) (U : Upto n m M n m' found) : Back n m (growN (min n (m.length - 1)) M) 0 m' found := by
  have hp : found.length ≤ n := ech_heads (a := 0) U.ech (fun _ _ => Nat.zero_le _) U.lt (Nat.zero_le _)
  have sz := U.sz.mono (growN_mono hM (show min found.length (m.length - 1) ≤ min n (m.length - 1) by omega))
  refine ⟨U.same, U.le, ech_to U.ech, U.lt, fun i r h1 h2 => ?_, fun i j r s k _ hj => absurd hj (Nat.not_lt_zero j), fun i r _ h => sz i r (Nat.zero_le _) h, fun i r hi => absurd hi (Nat.not_lt_zero i)⟩
  funext j
  rcases Nat.lt_or_ge j n with z | z
  · exact U.rest i r h1 h2 j z
  · unfold vec
    rw [List.getD_eq_getElem?_getD, List.getElem?_eq_none (by rw [U.same.wd.get h2]; exact z)]
    rfl
theorem back_hnf {n M : Nat} {m m' : Mat} {hs : List Nat} (B : Back n m M hs.length m' hs) : Hnf n m (m'.take hs.length) hs := by
  have hml : m'.length = m.length := B.same.len
  have hl := B.le
  have ltake : (m'.take hs.length).length = hs.length := by rw [List.length_take]; omega
  refine ⟨ech_of B.ech, red_of fun i j f g k hij e1 e2 e3 => ?_, fun r hr => B.same.wd r (List.mem_of_mem_take hr), B.lt, by omega, fun v hv => ?_, fun v hv => ?_⟩
  · obtain ⟨_, r, hr, rfl⟩ := tk_inv e1
    obtain ⟨hj, s, hs', rfl⟩ := tk_inv e2
    exact B.red i j r s k hij hj hr hs' e3
  · refine (B.same.to v hv).mono fun u hu => ?_
    obtain ⟨i, r, _, h2, rfl⟩ := hu
    rcases Nat.lt_or_ge i hs.length with z | z
    · exact .of (List.mem_of_getElem? (tk_get z h2))
    · rw [B.rest i r z h2]
      exact .zero
  · refine B.same.from' v (hv.mono fun u hu => ?_)
    obtain ⟨i, hi⟩ := List.getElem?_of_mem hu
    obtain ⟨_, r, hr, rfl⟩ := tk_inv hi
    exact .of ⟨i, r, Nat.zero_le _, hr, rfl⟩
abbrev pe (d : D) (n : Nat) (m : Mat) (hs : List Nat) (s4 s5 s6 : Sl) : Env' := [.val d, .val (.int (n : Nat)), .own false (matL m), .val (hdL hs), s4, s5, s6, .no]
theorem inner_ok {d : D} {m : Mat} {n a c b M : Nat} {hs : List Nat} {s6 : Sl} (hw : Wd n m) (hc : c < n) (hn : n ≤ 1000000) (ha : a < m.length) (hm : m.length < 1000000) (hL : 0 < E m a c) (hz : Sz 0 M m) (hb : M < 2 ^ b) (hbb : b + b < 134000000) :
    ∃ s6', xFor (lRng1 (aCons (eVar 4) aNil)) (gN 6) (xAsg (gIx 2 (eVar 6)) (eCall g_minus (aCons (eOp pIx (eVar 2) (eVar 6)) (aCons (eOp pIx (eVar 2) (eVar 4)) (aCons (eOp pFdiv (eOp pIx (eOp pIx (eVar 2) (eVar 6)) (eVar 5)) (eOp pIx (eOp pIx (eVar 2) (eVar 4)) (eVar 5))) aNil))))) (pe d n m hs (.val (.int (a : Nat))) (.val (.int (c : Nat))) s6) =
      some (.nx, pe d n (backP m a c a) hs (.val (.int (a : Nat))) (.val (.int (c : Nat))) s6') := by
  have hr := rng1 (a := aCons (eVar 4) aNil) (env := pe d n m hs (.val (.int (a : Nat))) (.val (.int (c : Nat))) s6) (e := pe d n m hs (.val (.int (a : Nat))) (.val (.int (c : Nat))) s6) (n := a) (by simp) (by omega)
  obtain ⟨p, x0, hp, hx0, he0⟩ := E_get hw ha hc
  have hpd : m.getD a [] = p := by rw [List.getD_eq_getElem?_getD, hp]; rfl
  have b0 : backP m a c 0 = m := by
    apply List.ext_getElem?
    intro i
    rw [back_get]
    cases m[i]? with
    | none => rfl
    | some r => simp only [Option.map_some]; rw [if_neg (Nat.not_lt_zero i)]
  obtain ⟨env', h1, s6', h2⟩ := for_ok hr (I := fun k env => ∃ s6, env = pe d n (backP m a c k) hs (.val (.int (a : Nat))) (.val (.int (c : Nat))) s6) ⟨s6, by rw [b0]⟩
    (g := gN 6) (F := xAsg (gIx 2 (eVar 6)) (eCall g_minus (aCons (eOp pIx (eVar 2) (eVar 6)) (aCons (eOp pIx (eVar 2) (eVar 4)) (aCons (eOp pFdiv (eOp pIx (eOp pIx (eVar 2) (eVar 6)) (eVar 5)) (eOp pIx (eOp pIx (eVar 2) (eVar 4)) (eVar 5))) aNil))))) (fun j env dd hI hd => by
    obtain ⟨s6, rfl⟩ := hI
    rw [List.getElem?_map, Option.map_eq_some_iff] at hd
    obtain ⟨j', hj, rfl⟩ := hd
    have hlt := lt_of_get hj
    rw [List.length_range] at hlt
    rw [List.getElem?_range hlt] at hj
    cases hj
    have hi : j < m.length := by omega
    obtain ⟨r, x, hr2, hx, he⟩ := E_get hw hi hc
    have gr : (backP m a c j)[j]? = some r := by rw [back_get, hr2, Option.map_some, if_neg (Nat.lt_irrefl j)]
    have gp : (backP m a c j)[a]? = some p := by rw [back_get, hp, Option.map_some, if_neg (by omega)]
    let e4 : Env' := pe d n (backP m a c j) hs (.val (.int (a : Nat))) (.val (.int (c : Nat))) (.val (.int (j : Nat)))
    have t1 := ix1_ok (env := e4) (p := false) (s := 2) (a := 6) rfl rfl gr
    have t2 := ix1_ok (env := e4) (p := false) (s := 2) (a := 4) rfl rfl gp
    have t3 := ix2_ok (env := e4) (p := false) (s := 2) (a := 6) (k := 5) rfl rfl rfl gr hx
    have t4 := ix2_ok (env := e4) (p := false) (s := 2) (a := 4) (k := 5) rfl rfl rfl gp hx0
    have hL' : 0 < x0 := by rw [← he0]; exact hL
    have t5 : eOp pFdiv (eOp pIx (eOp pIx (eVar 2) (eVar 6)) (eVar 5)) (eOp pIx (eOp pIx (eVar 2) (eVar 4)) (eVar 5)) e4 = some (.val (.int (x / x0)), e4) := eOp_ok t3 t4 rfl rfl (by rw [u_pFdiv, if_pos hL'])
    have bx : x.natAbs ≤ M := hz _ r (Nat.zero_le _) hr2 x (List.mem_of_getElem? hx)
    have bq : (x / x0).natAbs < 2 ^ b := Nat.lt_of_le_of_lt (Nat.le_trans (div_abs x _) bx) hb
    have t6 := g_minus_eq (a := r) (b := p) (da := rowL r) (db := rowL p) (t := x / x0) (.inl rfl) (.inl rfl) bq (hz.bits hb (Nat.zero_le _) hp) hbb (by rw [hw.get hr2]; exact hn)
    have t7 := eCall_ok (g := g_minus) (aCons_ok t1 (aCons_ok t2 (aCons_ok t5 u_aNil))) rfl t6
    refine ⟨e4, pe d n (backP m a c (j + 1)) hs (.val (.int (a : Nat))) (.val (.int (c : Nat))) (.val (.int (j : Nat))), rfl, .inl ?_, _, rfl⟩
    refine xAsg_ok t7 rfl ?_
    rw [gIx_ok (i := 2) (fi := eVar 6) (env := e4) (k := j) (ds := (backP m a c j).map rowL) rfl rfl rfl (by rw [List.length_map, back_len]; exact hi)]
    show some [_, _, Sl.own false (.list (((backP m a c j).map rowL).set j (rowL (minusP r p (x / x0))))), _, _, _, _, _] = some [_, _, Sl.own false (matL (backP m a c (j + 1))), _, _, _, _, _]
    rw [← matL_set]
    have e : (backP m a c j).set j (minusP r p (x / x0)) = backP m a c (j + 1) := by
      apply List.ext_getElem?
      intro i
      by_cases h : i = j
      · subst h
        rw [List.getElem?_set_self (by rw [back_len]; exact hi), back_get, hr2, Option.map_some, if_pos (Nat.lt_succ_self i), hpd, he0]
        rw [List.getD_eq_getElem?_getD, hx]
        rfl
      · rw [List.getElem?_set_ne (Ne.symm h), back_get, back_get]
        cases m[i]? with
        | none => rfl
        | some r' =>
          simp only [Option.map_some]
          by_cases h2 : i < j
          · rw [if_pos h2, if_pos (by omega)]
          · rw [if_neg h2, if_neg (by omega)]
    rw [e])
  rw [List.length_map, List.length_range] at h2
  exact ⟨s6', by rw [h1, h2]⟩
end K52
set_option Elab.async false
set_option linter.all false
set_option maxRecDepth 100000
set_option maxHeartbeats 1000000
/-! plain_form, whole. -/
namespace K52
open PySem PySem.Spec L2 Sm
theorem cut_take {α : Type} (xs : List α) (p : Nat) : cutG xs none (some (p : Int)) = xs.take p := by
  unfold cutG
  rw [HT.sIx_none, HT.sIx_nat, List.drop_zero, Nat.sub_zero]
  rcases Nat.le_total p xs.length with h | h
  · rw [Nat.min_eq_left h]
  · rw [Nat.min_eq_right h, List.take_of_length_le (Nat.le_refl _), List.take_of_length_le h]
def matT (m : Mat) : D := .tuple (m.map rowT)
theorem Back.sz {n M a : Nat} {m m' : Mat} {hs : List Nat} (B : Back n m M a m' hs) : Sz 0 (M * (1 + M) ^ a) m' := fun i r _ h2 x hx => by
  rcases Nat.lt_or_ge i a with z | z
  · exact B.hi i r z h2 x hx
  · exact Nat.le_trans (B.lo i r z h2 x hx) (Nat.le_mul_of_pos_right _ (Nat.pow_pos (by omega)))
/-- what bounds the entries of a plain form -/
def formB (n r M : Nat) : Nat := growN (min n (r - 1)) M * (1 + growN (min n (r - 1)) M) ^ n
theorem pow_mono' {a : Nat} (ha : 0 < a) {i j : Nat} (h : i ≤ j) : a ^ i ≤ a ^ j := Nat.pow_le_pow_right ha h
theorem g_plain_eq {d : D} {m : Mat} {n M b G : Nat} (hd : MatD m d) (hw : Wd n m) (hn : n < 1000000) (hm : m.length < 1000000) (hz : Sz 0 M m) (hM : 1 ≤ M) (hG : min n m.length ≤ G) (hG1 : 1 ≤ G) (hb : growN G M < 2 ^ b) (hb2 : formB n m.length M < 2 ^ b) (hbb : b + b < 134000000) :
    ∃ F hs, Hnf n m F hs ∧ Sz 0 (formB n m.length M) F ∧ g_plain_form [d, .int n] = some (matT F) := by
  obtain ⟨A, hA, hseq⟩ := hd
  have e0 : ([.val d, .val (.int (n : Nat)), .no, .no, .no, .no, .no, .no] : Env') = [.val d, .val (.int (n : Nat)), .no, .no, .no, .no, .no, .no] := rfl
  -- some = [list(row) for row in rows]
  have k1 : lcF (gN 7) bYes (eCb pList (aCons (eVar 7) aNil)) [7] (m.map A) [.val d, .val (.int (n : Nat)), .no, .no, .no, .no, .no, .no] = some (m.map rowL, [.val d, .val (.int (n : Nat)), .no, .no, .no, .no, .no, .no]) := by
    refine lcF_map _ _ _ fun r hr => ?_
    refine ⟨[.val d, .val (.int (n : Nat)), .no, .no, .no, .no, .no, .val (A r)], _, .fr (rowL r), [.val d, .val (.int (n : Nat)), .no, .no, .no, .no, .no, .val (A r)], _, rfl, rfl, ?_, rfl, rfl⟩
    refine eCb_ok (aCons_ok (show eVar 7 _ = some (.val (A r), _) from rfl) u_aNil) rfl ?_
    rcases hA r with h | h <;> rw [h] <;> rfl
  have l1 : lSeq (eVar 0) [.val d, .val (.int (n : Nat)), .no, .no, .no, .no, .no, .no] = some (m.map A, [.val d, .val (.int (n : Nat)), .no, .no, .no, .no, .no, .no]) := lSeq_ok (r := .val d) rfl rfl hseq
  have c1 := eLc_ok l1 rfl k1 (by rw [List.length_map]; omega)
  have s1 : xSet 2 (eLc [7] (lSeq (eVar 0)) (gN 7) bYes (eCb pList (aCons (eVar 7) aNil))) [.val d, .val (.int (n : Nat)), .no, .no, .no, .no, .no, .no] = some (.nx, [.val d, .val (.int (n : Nat)), .own false (matL m), .no, .no, .no, .no, .no]) := xSet_ok c1 rfl (by simp)
  -- leads = leads_by(some, columns)
  obtain ⟨m', hs, U, hlead⟩ := g_leads_eq hw (Nat.le_refl n) hn hm hz hM hG hG1 hb hbb
  have s2 : xSet 3 (eCallM g_leads_by (aCons (eVar 2) (aCons (eVar 1) aNil))) [.val d, .val (.int (n : Nat)), .own false (matL m), .no, .no, .no, .no, .no] = some (.nx, pe d n m' hs .no .no .no) := by
    have := eCallM_ok (g := g_leads_by) (a := aCons (eVar 2) (aCons (eVar 1) aNil)) (env := [.val d, .val (.int (n : Nat)), .own false (matL m), .no, .no, .no, .no, .no]) (e1 := [.val d, .val (.int (n : Nat)), .own false (matL m), .no, .no, .no, .no, .no]) (e2 := [.val d, .val (.int (n : Nat)), .own false (matL m), .no, .no, .no, .no, .no]) (i := 2) (rs := [.val (.int (n : Nat))]) (ds := [.int (n : Nat)]) (p := false) (c := matL m) rfl rfl rfl hlead
    exact xSet_ok this rfl (by simp)
  -- the reduction
  have hp : hs.length ≤ n := ech_heads (a := 0) U.ech (fun _ _ => Nat.zero_le _) U.lt (Nat.zero_le _)
  have hM1 : 1 ≤ growN (min n (m.length - 1)) M := growN_one hM _
  have B0 := upto_back hM U
  have l3 : lEn (aCons (eVar 3) aNil) (pe d n m' hs .no .no .no) = some (enD (hs.map fun h => PyData.int ((h : Nat) : Int)), pe d n m' hs .no .no .no) := by simp [hdL]
  obtain ⟨env', h1, ⟨m2, s4, s5, s6, rfl, B⟩⟩ := for_ok l3 (I := fun a env => ∃ m2 s4 s5 s6, env = pe d n m2 hs s4 s5 s6 ∧ Back n m (growN (min n (m.length - 1)) M) a m2 hs) ⟨m', .no, .no, .no, rfl, B0⟩
    (g := gT 2 (gCons (gN 4) (gCons (gN 5) gNil))) (F := xFor (lRng1 (aCons (eVar 4) aNil)) (gN 6) (xAsg (gIx 2 (eVar 6)) (eCall g_minus (aCons (eOp pIx (eVar 2) (eVar 6)) (aCons (eOp pIx (eVar 2) (eVar 4)) (aCons (eOp pFdiv (eOp pIx (eOp pIx (eVar 2) (eVar 6)) (eVar 5)) (eOp pIx (eOp pIx (eVar 2) (eVar 4)) (eVar 5))) aNil)))))) (fun a env dd hI hdd => by
    obtain ⟨m2, s4, s5, s6, rfl, B⟩ := hI
    unfold enD at hdd
    rw [List.getElem?_mapIdx, Option.map_eq_some_iff] at hdd
    obtain ⟨dh, hdh, rfl⟩ := hdd
    rw [List.getElem?_map, Option.map_eq_some_iff] at hdh
    obtain ⟨c, hc, rfl⟩ := hdh
    have hal : a < hs.length := lt_of_get hc
    have hcn : c < n := B.lt c (List.mem_of_getElem? hc)
    have hml : m2.length = m.length := B.same.len
    have ham : a < m2.length := by have := B.le; omega
    have hEc : 0 < E m2 a c := by
      obtain ⟨p, hp2⟩ : ∃ p, m2[a]? = some p := ⟨_, List.getElem?_eq_getElem ham⟩
      rw [E_of hp2]
      exact (B.ech.2 a (vec p) c (tk_get hal hp2) hc).2.1
    have szb : growN (min n (m.length - 1)) M * (1 + growN (min n (m.length - 1)) M) ^ a < 2 ^ b := by
      refine Nat.lt_of_le_of_lt ?_ hb2
      unfold formB
      exact Nat.mul_le_mul_left _ (pow_mono' (by omega) (by omega))
    obtain ⟨s6', h⟩ := inner_ok (d := d) (hs := hs) (s6 := s6) B.same.wd hcn (Nat.le_of_lt hn) ham (by rw [hml]; exact hm) hEc B.sz szb hbb
    exact ⟨pe d n m2 hs (.val (.int (a : Nat))) (.val (.int (c : Nat))) s6, _, rfl, .inl h, _, _, _, _, rfl, back_step B hM1 hc⟩)
  have elen : (enD (hs.map fun h => PyData.int ((h : Nat) : Int))).length = hs.length := by
    unfold enD
    rw [List.length_mapIdx, List.length_map]
  rw [elen] at B
  have H := back_hnf B
  have szF : Sz 0 (formB n m.length M) (m2.take hs.length) := fun i r _ h2 x hx => by
    rw [List.getElem?_take] at h2
    split at h2
    · refine Nat.le_trans (B.sz i r (Nat.zero_le _) h2 x hx) ?_
      unfold formB
      exact Nat.mul_le_mul_left _ (pow_mono' (by omega) hp)
    · cases h2
  refine ⟨m2.take hs.length, hs, H, szF, ?_⟩
  -- the answer
  have t1 : lSeq (eSl (eVar 2) oNone (oSome (eCb pLen (aCons (eVar 3) aNil)))) (pe d n m2 hs s4 s5 s6) = some ((m2.take hs.length).map rowL, pe d n m2 hs s4 s5 s6) := by
    refine lSeq_ok (r := .fr (.list ((m2.take hs.length).map rowL))) (e1 := pe d n m2 hs s4 s5 s6) (d := .list ((m2.take hs.length).map rowL)) ?_ rfl rfl
    have hcut := cut_take (m2.map rowL) hs.length
    rw [← List.map_take] at hcut
    simp [hdL, matL, hcut]
  have k2 : lcF (gN 7) bYes (eCb pTuple (aCons (eVar 7) aNil)) [7] ((m2.take hs.length).map rowL) (pe d n m2 hs s4 s5 s6) = some ((m2.take hs.length).map rowT, pe d n m2 hs s4 s5 s6) := by
    refine lcF_map _ _ _ fun r hr => ?_
    exact ⟨[.val d, .val (.int (n : Nat)), .own false (matL m2), .val (hdL hs), s4, s5, s6, .val (rowL r)], _, .val (rowT r), [.val d, .val (.int (n : Nat)), .own false (matL m2), .val (hdL hs), s4, s5, s6, .val (rowL r)], _, rfl, rfl, eCb_ok (aCons_ok (show eVar 7 _ = some (.val (rowL r), _) from rfl) u_aNil) rfl rfl, rfl, rfl⟩
  have c2 := eLc_ok t1 rfl k2 (by rw [List.length_map, List.length_take]; omega)
  have hF : F_plain_form [.val d, .val (.int (n : Nat)), .no, .no, .no, .no, .no, .no] = some (.ret (matT (m2.take hs.length)), pe d n m2 hs s4 s5 s6) := by
    unfold F_plain_form
    exact xSeq_nx s1 (xSeq_nx s2 (xSeq_nx h1 (xRet_ok (eCb_ok (aCons_ok c2 u_aNil) rfl u_pTupL) rfl)))
  exact runP_ok rfl hF
end K52
set_option Elab.async false
set_option linter.all false
set_option maxRecDepth 100000
set_option maxHeartbeats 1000000
/-! rank, is_made_of. -/
namespace K52
open PySem PySem.Spec L2 Sm
/-- one lattice, one plain form -/
theorem hnf_inj {n : Nat} {m m' F F' : Mat} {hs hs' : List Nat} (a : Hnf n m F hs) (b : Hnf n m' F' hs') (h : ∀ v, Lat (T 0 m) v ↔ Lat (T 0 m') v) : F = F' ∧ hs = hs' := by
  obtain ⟨e1, e2⟩ := hnf_unique a.ech a.red b.ech b.red fun v => ⟨fun hv => b.to v ((h v).mp (a.from' v hv)), fun hv => a.to v ((h v).mpr (b.from' v hv))⟩
  refine ⟨?_, e2⟩
  have hl : F.length = F'.length := by
    have := congrArg List.length e1
    simpa using this
  apply List.ext_getElem hl
  intro i h1 h2
  apply vec_inj
  · rw [a.wd _ (List.getElem_mem h1), b.wd _ (List.getElem_mem h2)]
  · have e : (F.map vec)[i]? = (F'.map vec)[i]? := by rw [e1]
    rw [List.getElem?_map, List.getElem?_map, List.getElem?_eq_getElem h1, List.getElem?_eq_getElem h2] at e
    exact Option.some.inj e
theorem canLay_mat : ∀ m : Mat, PyData.canLayAll0 (m.map rowT) = true
  | [] => rfl
  | r :: m => by
    have := canLay_ints r
    simp only [List.map_cons, PyData.canLayAll0, canLay_mat m, Bool.and_true]
    exact this
theorem depth_mat : ∀ m : Mat, PyData.depthAll (m.map rowT) ≤ 2
  | [] => Nat.zero_le _
  | r :: m => by
    have h1 := depth_ints r
    have h2 := depth_mat m
    have h3 : (rowT r).depth = PyData.depthAll (r.map PyData.int) + 1 := rfl
    simp only [List.map_cons, PyData.depthAll]
    omega
theorem shaped_matT (m : Mat) : SeqAt.shaped (matT m) = true := by
  have h1 : (matT m).canLay0 = true := canLay_mat m
  have h2 : (matT m).depth = PyData.depthAll (m.map rowT) + 1 := rfl
  have h3 := depth_mat m
  unfold SeqAt.shaped
  rw [h1, Bool.true_and, h2]
  exact decide_eq_true (Nat.le_trans (Nat.succ_le_succ h3) (show 3 ≤ 64 by decide))
theorem eqv_mats : ∀ m k : Mat, PyData.eqvAll (m.map rowT) (k.map rowT) = decide (m = k)
  | [], [] => rfl
  | [], _ :: _ => by simp [PyData.eqvAll]
  | _ :: _, [] => by simp [PyData.eqvAll]
  | r :: m, s :: k => by
    have h : PyData.eqv (rowT r) (rowT s) = decide (r = s) := eqv_ints r s
    simp only [List.map_cons, PyData.eqvAll, h, eqv_mats m k]
    by_cases h1 : r = s <;> by_cases h2 : m = k <;> simp [h1, h2]
theorem pEq_matT (m k : Mat) : pEq (matT m) (matT k) = some (.val (.bool (decide (m = k)))) := by
  unfold pEq
  rw [if_pos ⟨shaped_matT m, shaped_matT k⟩]
  have h : PyData.eqv (matT m) (matT k) = decide (m = k) := eqv_mats m k
  rw [h]
theorem g_rank_eq {d : D} {n : Nat} {F : Mat} (h : g_plain_form [d, .int (n : Nat)] = some (matT F)) : g_rank [d, .int (n : Nat)] = some (.int (F.length : Nat)) := by
  have hc : eCall g_plain_form (aCons (eVar 0) (aCons (eVar 1) aNil)) [.val d, .val (.int (n : Nat))] = some (.val (matT F), [.val d, .val (.int (n : Nat))]) := eCall_ok (rs := [.val d, .val (.int (n : Nat))]) (e1 := [.val d, .val (.int (n : Nat))]) (ds := [d, .int (n : Nat)]) rfl rfl h
  have hl : pLen [matT F] = some (.val (.int (F.length : Nat))) := by
    unfold matT
    rw [u_pLenT, List.length_map]
  have hF : F_rank [.val d, .val (.int (n : Nat))] = some (.ret (.int (F.length : Nat)), [.val d, .val (.int (n : Nat))]) := by
    unfold F_rank
    exact xRet_ok (eCb_ok (aCons_ok hc u_aNil) rfl hl) rfl
  exact runP_ok rfl hF
theorem frz_vals {env : Env'} : ∀ ds : List D, frzL env (ds.map R.val) = some (ds, env)
  | [] => rfl
  | d :: ds => by simp [frz_vals ds]
theorem g_made_eq {d : D} {n : Nat} {m F F' : Mat} {r : Row} (hd : seqOf d = some (m.map rowT)) (hm : m.length < 999999) (h1 : g_plain_form [d, .int (n : Nat)] = some (matT F)) (h2 : g_plain_form [.list ((m ++ [r]).map rowT), .int (n : Nat)] = some (matT F')) :
    g_is_made_of [d, .int (n : Nat), rowT r] = some (.bool (decide (F = F'))) := by
  let e0 : Env' := [.val d, .val (.int (n : Nat)), .val (rowT r)]
  have c1 : eCall g_plain_form (aCons (eVar 0) (aCons (eVar 1) aNil)) e0 = some (.val (matT F), e0) := eCall_ok (rs := [.val d, .val (.int (n : Nat))]) (e1 := e0) (ds := [d, .int (n : Nat)]) rfl rfl h1
  have a1 : aStar (eVar 0) (aCons (eVar 2) aNil) e0 = some (((m ++ [r]).map rowT).map R.val, e0) := by
    have e1 : eVar 0 e0 = some (.val d, e0) := rfl
    have e2 : aCons (eVar 2) aNil e0 = some ([R.val (rowT r)], e0) := rfl
    rw [u_aStar, e1]
    simp only [Option.bind_some, u_frz1]
    unfold seqOf at hd
    split at hd
    · cases hd
      simp only [e2, Option.map_some, List.map_append, List.map_cons, List.map_nil]
    · cases hd
      simp only [e2, Option.map_some, List.map_append, List.map_cons, List.map_nil]
    · cases hd
  have l1 : eLst (aStar (eVar 0) (aCons (eVar 2) aNil)) e0 = some (.fr (.list ((m ++ [r]).map rowT)), e0) := by
    rw [u_eLst, a1]
    simp only [Option.bind_some, frz_vals]
    rw [if_pos (by rw [List.length_map, List.length_append, List.length_singleton]; omega)]
  have c2 : eCall g_plain_form (aCons (eLst (aStar (eVar 0) (aCons (eVar 2) aNil))) (aCons (eVar 1) aNil)) e0 = some (.val (matT F'), e0) := eCall_ok (e1 := e0) (aCons_ok l1 (aCons_ok (show eVar 1 e0 = some (.val (.int (n : Nat)), e0) from rfl) u_aNil)) rfl h2
  have hF : F_is_made_of e0 = some (.ret (.bool (decide (F = F'))), e0) := by
    unfold F_is_made_of
    exact xRet_ok (eOp_ok c1 c2 rfl rfl (pEq_matT F F')) rfl
  exact runP_ok rfl hF
/-- one more row changes nothing just when it is made of the others -/
theorem made_iff {n : Nat} {m F F' : Mat} {hs hs' : List Nat} {r : Row} (a : Hnf n m F hs) (b : Hnf n (m ++ [r]) F' hs') : F = F' ↔ Lat (T 0 m) (vec r) := by
  have old : ∀ u, T 0 m u → T 0 (m ++ [r]) u := fun u ⟨i, s, h1, h2, h3⟩ => ⟨i, s, h1, by rw [List.getElem?_append_left (lt_of_get h2)]; exact h2, h3⟩
  constructor
  · intro e
    have h1 : Lat (T 0 (m ++ [r])) (vec r) := .of ⟨m.length, r, Nat.zero_le _, by rw [List.getElem?_append_right (Nat.le_refl _), Nat.sub_self]; rfl, rfl⟩
    have h2 := b.to _ h1
    rw [← e] at h2
    exact a.from' _ h2
  · intro h
    refine (hnf_inj a b fun v => ⟨fun hv => hv.mono fun u hu => .of (old u hu), fun hv => hv.mono fun u hu => ?_⟩).1
    obtain ⟨i, s, h1, h2, rfl⟩ := hu
    rcases Nat.lt_or_ge i m.length with z | z
    · rw [List.getElem?_append_left z] at h2
      exact .of ⟨i, s, h1, h2, rfl⟩
    · rw [List.getElem?_append_right z] at h2
      have : s = r := by
        have hl := lt_of_get h2
        simp at hl
        have e0 : i - m.length = 0 := by omega
        rw [e0] at h2
        exact (Option.some.inj h2).symm
      rw [this]
      exact h
end K52
set_option Elab.async false
set_option linter.all false
set_option maxRecDepth 100000
set_option maxHeartbeats 1000000
/-! still_rows. -/
namespace K52
open PySem PySem.Spec L2 Sm
/-- the columns of m, each with its unit row behind -/
def augP (m : Mat) (n : Nat) : Mat := (List.range n).map fun i => (m.map fun r => r.getD i 0) ++ unitP n i
def botP (m : Mat) (p k : Nat) : Mat := (m.drop p).map fun r => r.drop k
theorem cut_drop {α : Type} (xs : List α) (p : Nat) (h : p ≤ xs.length) : cutG xs (some (p : Int)) none = xs.drop p := by
  unfold cutG
  rw [HT.sIx_none, HT.sIx_nat, Nat.min_eq_left h, List.take_of_length_le (by rw [List.length_drop]; exact Nat.le_refl _)]
theorem aug_wd (m : Mat) (n : Nat) : Wd (m.length + n) (augP m n) := fun r hr => by
  obtain ⟨i, _, rfl⟩ := List.mem_map.mp hr
  unfold unitP
  rw [List.length_append, List.length_map, List.length_map, List.length_range]
theorem aug_len (m : Mat) (n : Nat) : (augP m n).length = n := by
  unfold augP
  rw [List.length_map, List.length_range]
theorem aug_sz {m : Mat} {n M : Nat} (hz : Sz 0 M m) (hM : 1 ≤ M) : Sz 0 M (augP m n) := fun i r _ hr x hx => by
  obtain ⟨j, _, rfl⟩ := List.mem_map.mp (List.mem_of_getElem? hr)
  rcases List.mem_append.mp hx with hx | hx
  · obtain ⟨s, hs, rfl⟩ := List.mem_map.mp hx
    obtain ⟨k, hk⟩ := List.getElem?_of_mem hs
    rw [List.getD_eq_getElem?_getD]
    cases h : s[j]? with
    | none => simp
    | some y => exact hz k s (Nat.zero_le _) hk y (List.mem_of_getElem? h)
  · unfold unitP at hx
    obtain ⟨k, _, rfl⟩ := List.mem_map.mp hx
    split
    · exact hM
    · exact Nat.zero_le _
theorem bot_wd {m : Mat} {p k n : Nat} (h : Wd (k + n) m) : Wd n (botP m p k) := fun r hr => by
  obtain ⟨s, hs, rfl⟩ := List.mem_map.mp hr
  rw [List.length_drop, h s (List.mem_of_mem_drop hs)]
  omega
theorem bot_sz {m : Mat} {p k M : Nat} (h : Sz 0 M m) : Sz 0 M (botP m p k) := fun i r _ hr x hx => by
  obtain ⟨s, hs, rfl⟩ := List.mem_map.mp (List.mem_of_getElem? hr)
  obtain ⟨j, hj⟩ := List.getElem?_of_mem (List.mem_of_mem_drop hs)
  exact h j s (Nat.zero_le _) hj x (List.mem_of_mem_drop hx)
theorem bot_len {m : Mat} {p k : Nat} : (botP m p k).length = m.length - p := by
  unfold botP
  rw [List.length_map, List.length_drop]
theorem growN_add (M i : Nat) : ∀ j, growN j (growN i M) = growN (i + j) M
  | 0 => rfl
  | j + 1 => by
    show grow (growN j (growN i M)) = grow (growN (i + j) M)
    rw [growN_add M i j]
theorem g_still_eq {d : D} {m : Mat} {n M b : Nat} (hd : MatD m d) (hw : Wd n m) (hn : m.length + n < 1000000) (h1n : 1 ≤ n) (hz : Sz 0 M m) (hM : 1 ≤ M) (hb : growN n M < 2 ^ b) (hb2 : growN (n - 1) M * (1 + growN (n - 1) M) ^ n < 2 ^ b) (hbb : b + b < 134000000) :
    ∃ m' hs F hs', Upto (m.length + n) (augP m n) M m.length m' hs ∧ Hnf n (botP m' hs.length m.length) F hs' ∧ Sz 0 (growN (n - 1) M * (1 + growN (n - 1) M) ^ n) F ∧ g_still_rows [d, .int (n : Nat)] = some (matT F) := by
  obtain ⟨A, hA, hseq⟩ := hd
  let e1 : Env' := [.val d, .val (.int (n : Nat)), .val (.int (m.length : Nat)), .no, .no, .no, .no]
  have plen : pLen [d] = some (.val (.int (m.length : Nat))) := by
    unfold seqOf at hseq
    split at hseq
    · cases hseq
      rw [u_pLenL, List.length_map]
    · cases hseq
      rw [u_pLenT, List.length_map]
    · cases hseq
  have s1 : xSet 2 (eCb pLen (aCons (eVar 0) aNil)) [.val d, .val (.int (n : Nat)), .no, .no, .no, .no, .no] = some (.nx, e1) := xSet_ok (eCb_ok (rs := [.val d]) (e1 := [.val d, .val (.int (n : Nat)), .no, .no, .no, .no, .no]) (ds := [d]) rfl rfl plen) rfl (by simp)
  -- some = [[row[at] for row in rows] + unit(many, at) for at in range(many)]
  have k1 : lcF (gN 5) bYes (eOp pAdd (eLc [6] (lSeq (eVar 0)) (gN 6) bYes (eOp pIx (eVar 6) (eVar 5))) (eCall g_unit (aCons (eVar 1) (aCons (eVar 5) aNil)))) [5] ((List.range n).map fun i => PyData.int ((i : Nat) : Int)) e1 = some ((List.range n).map fun i => rowL ((m.map fun r => r.getD i 0) ++ unitP n i), e1) := by
    refine lcF_map _ _ _ fun i hi => ?_
    have hi' := List.mem_range.mp hi
    let e5 : Env' := [.val d, .val (.int (n : Nat)), .val (.int (m.length : Nat)), .no, .no, .val (.int (i : Nat)), .no]
    have k2 : lcF (gN 6) bYes (eOp pIx (eVar 6) (eVar 5)) [6] (m.map A) e5 = some (m.map fun r => PyData.int (r.getD i 0), e5) := by
      refine lcF_map _ _ _ fun r hr => ?_
      let e6 : Env' := [.val d, .val (.int (n : Nat)), .val (.int (m.length : Nat)), .no, .no, .val (.int (i : Nat)), .val (A r)]
      refine ⟨e6, _, .val (.int (r.getD i 0)), e6, _, rfl, rfl, ?_, rfl, rfl⟩
      have hri : r[i]? = some (r.getD i 0) := by
        rw [List.getD_eq_getElem?_getD, List.getElem?_eq_getElem (by rw [hw r hr]; exact hi')]
        rfl
      refine eOp_ok (e1 := e6) (ra := .val (A r)) (rb := .val (.int (i : Nat))) (x := A r) (y := .int (i : Nat)) rfl rfl rfl rfl ?_
      have hat : atI (r.map PyData.int) ((i : Nat) : Int) = some (.int (r.getD i 0)) := atI_get (by rw [List.getElem?_map, hri]; rfl)
      rcases hA r with h | h
      · rw [h]
        show (atI (r.map PyData.int) ((i : Nat) : Int)).map R.val = _
        rw [hat]
        rfl
      · rw [h]
        show (atI (r.map PyData.int) ((i : Nat) : Int)).map R.val = _
        rw [hat]
        rfl
    have l2 : lSeq (eVar 0) e5 = some (m.map A, e5) := lSeq_ok (r := .val d) rfl rfl hseq
    have c2 := eLc_ok l2 rfl k2 (by rw [List.length_map]; omega)
    have u2 : eCall g_unit (aCons (eVar 1) (aCons (eVar 5) aNil)) e5 = some (.val (rowL (unitP n i)), e5) := eCall_ok (rs := [.val (.int (n : Nat)), .val (.int (i : Nat))]) (e1 := e5) (ds := [.int (n : Nat), .int (i : Nat)]) rfl rfl (g_unit_eq (by omega))
    refine ⟨e5, _, .fr (rowL ((m.map fun r => r.getD i 0) ++ unitP n i)), e5, _, rfl, rfl, ?_, rfl, rfl⟩
    refine eOp_ok c2 u2 rfl rfl ?_
    have lu : (unitP n i).length = n := by unfold unitP; rw [List.length_map, List.length_range]
    unfold rowL
    rw [u_pAdd3, if_pos (by rw [List.length_map, List.length_map, lu]; omega), List.map_append, List.map_map]
    rfl
  have r1 := rng1 (a := aCons (eVar 1) aNil) (env := e1) (e := e1) (n := n) (by simp [e1]) (by omega)
  have c1 := eLc_ok r1 rfl k1 (by rw [List.length_map, List.length_range]; omega)
  have em : PyData.list ((List.range n).map fun i => rowL ((m.map fun r => r.getD i 0) ++ unitP n i)) = matL (augP m n) := by
    unfold matL augP
    rw [List.map_map]
    rfl
  rw [em] at c1
  have s2 : xSet 3 (eLc [5] (lRng1 (aCons (eVar 1) aNil)) (gN 5) bYes (eOp pAdd (eLc [6] (lSeq (eVar 0)) (gN 6) bYes (eOp pIx (eVar 6) (eVar 5))) (eCall g_unit (aCons (eVar 1) (aCons (eVar 5) aNil))))) e1 = some (.nx, [.val d, .val (.int (n : Nat)), .val (.int (m.length : Nat)), .own false (matL (augP m n)), .no, .no, .no]) := xSet_ok c1 rfl (by simp [e1])
  -- leads = leads_by(some, columns)
  obtain ⟨m', hs, U, hlead⟩ := g_leads_eq (k := m.length) (G := n) (aug_wd m n) (Nat.le_add_right _ _) hn (by rw [aug_len]; omega) (aug_sz hz hM) hM (by rw [aug_len]; omega) h1n hb hbb
  let e3 : Env' := [.val d, .val (.int (n : Nat)), .val (.int (m.length : Nat)), .own false (matL m'), .val (hdL hs), .no, .no]
  have s3 : xSet 4 (eCallM g_leads_by (aCons (eVar 3) (aCons (eVar 2) aNil))) [.val d, .val (.int (n : Nat)), .val (.int (m.length : Nat)), .own false (matL (augP m n)), .no, .no, .no] = some (.nx, e3) := by
    have := eCallM_ok (g := g_leads_by) (a := aCons (eVar 3) (aCons (eVar 2) aNil)) (env := [.val d, .val (.int (n : Nat)), .val (.int (m.length : Nat)), .own false (matL (augP m n)), .no, .no, .no]) (e1 := [.val d, .val (.int (n : Nat)), .val (.int (m.length : Nat)), .own false (matL (augP m n)), .no, .no, .no]) (e2 := [.val d, .val (.int (n : Nat)), .val (.int (m.length : Nat)), .own false (matL (augP m n)), .no, .no, .no]) (i := 3) (rs := [.val (.int (m.length : Nat))]) (ds := [.int (m.length : Nat)]) (p := false) (c := matL (augP m n)) rfl rfl rfl hlead
    exact xSet_ok this rfl (by simp)
  -- what is left below
  have hml : m'.length = n := by rw [U.same.len, aug_len]
  have hpn : hs.length ≤ n := by have := U.le; rw [aug_len] at this; exact this
  have szb : Sz 0 (growN (min hs.length (n - 1)) M) (botP m' hs.length m.length) := bot_sz (by have := U.sz; rw [aug_len] at this; exact this)
  have blen : (botP m' hs.length m.length).length = n - hs.length := by rw [bot_len, hml]
  have hMp : 1 ≤ growN (min hs.length (n - 1)) M := growN_one hM _
  have bf : formB n (botP m' hs.length m.length).length (growN (min hs.length (n - 1)) M) ≤ growN (n - 1) M * (1 + growN (n - 1) M) ^ n := by
    unfold formB
    rw [growN_add, blen]
    have h1 : growN (min hs.length (n - 1) + min n (n - hs.length - 1)) M ≤ growN (n - 1) M := growN_mono hM (by omega)
    exact Nat.mul_le_mul h1 (Nat.pow_le_pow_left (by omega) n)
  have hgb : growN (n - min hs.length (n - 1)) (growN (min hs.length (n - 1)) M) < 2 ^ b := by
    rw [growN_add]
    exact Nat.lt_of_le_of_lt (growN_mono hM (by omega)) hb
  obtain ⟨F, hs', H, szF, hplain⟩ := g_plain_eq (d := .list ((botP m' hs.length m.length).map rowL)) (G := n - min hs.length (n - 1)) ⟨rowL, fun r => .inl rfl, rfl⟩ (bot_wd U.same.wd) (by omega) (by rw [blen]; omega) szb hMp (by rw [blen]; omega) (by omega) hgb (Nat.lt_of_le_of_lt bf hb2) hbb
  refine ⟨m', hs, F, hs', U, H, szF.mono bf, ?_⟩
  have k4 : lcF (gN 6) bYes (eSl (eVar 6) (oSome (eVar 2)) oNone) [6] ((m'.drop hs.length).map rowL) e3 = some ((m'.drop hs.length).map fun r => rowL (r.drop m.length), e3) := by
    refine lcF_map _ _ _ fun r hr => ?_
    let e6 : Env' := [.val d, .val (.int (n : Nat)), .val (.int (m.length : Nat)), .own false (matL m'), .val (hdL hs), .no, .val (rowL r)]
    refine ⟨e6, _, .fr (rowL (r.drop m.length)), e6, _, rfl, rfl, ?_, rfl, rfl⟩
    have hrl : r.length = m.length + n := U.same.wd r (List.mem_of_mem_drop hr)
    have hcut : cutG (r.map PyData.int) (some ((m.length : Nat) : Int)) none = (r.drop m.length).map PyData.int := by
      rw [cut_drop _ _ (by rw [List.length_map]; omega), List.map_drop]
    have q1 : eVar 6 e6 = some (.val (rowL r), e6) := rfl
    have q2 : oSome (eVar 2) e6 = some (some ((m.length : Nat) : Int), e6) := rfl
    have q3 : pSl (rowL r) (some ((m.length : Nat) : Int)) none = some (.fr (rowL (r.drop m.length))) := by
      unfold rowL
      rw [u_pSlL, hcut]
    simp only [eSl, q1, q2, u_oNone, Option.bind_some, u_fz1, u_deref1, q3, Option.map_some]
  have l4 : lSeq (eSl (eVar 3) (oSome (eCb pLen (aCons (eVar 4) aNil))) oNone) e3 = some ((m'.drop hs.length).map rowL, e3) := by
    refine lSeq_ok (r := .fr (.list ((m'.drop hs.length).map rowL))) (e1 := e3) (d := .list ((m'.drop hs.length).map rowL)) ?_ rfl rfl
    have hcut : cutG (m'.map rowL) (some ((hs.length : Nat) : Int)) none = (m'.drop hs.length).map rowL := by
      rw [cut_drop _ _ (by rw [List.length_map]; omega), List.map_drop]
    simp [e3, hdL, matL, hcut]
  have c4 := eLc_ok l4 rfl k4 (by rw [List.length_map, List.length_drop]; omega)
  have eb : PyData.list ((m'.drop hs.length).map fun r => rowL (r.drop m.length)) = .list ((botP m' hs.length m.length).map rowL) := by
    unfold botP
    rw [List.map_map]
    rfl
  rw [eb] at c4
  have hF : F_still_rows [.val d, .val (.int (n : Nat)), .no, .no, .no, .no, .no] = some (.ret (matT F), e3) := by
    unfold F_still_rows
    exact xSeq_nx s1 (xSeq_nx s2 (xSeq_nx s3 (xRet_ok (eCall_ok (e1 := e3) (aCons_ok c4 (aCons_ok (show eVar 1 e3 = some (.val (.int (n : Nat)), e3) from rfl) u_aNil)) rfl hplain) rfl)))
  exact runP_ok rfl hF
end K52
set_option linter.all false
/-! Products of vectors, maps of lattices. -/
namespace K52
def dotN : Nat → Vec → Vec → Int
  | 0, _, _ => 0
  | n + 1, v, w => dotN n v w + v n * w n
theorem dot_comm (v w : Vec) : ∀ n, dotN n v w = dotN n w v
  | 0 => rfl
  | n + 1 => by
    simp only [dotN, dot_comm v w n, Int.mul_comm]
theorem dot_axpy (a b w : Vec) (t : Int) : ∀ n, dotN n (fun j => a j + t * b j) w = dotN n a w + t * dotN n b w
  | 0 => by simp [dotN]
  | n + 1 => by
    simp only [dotN, dot_axpy a b w t n]
    grind
theorem dot_axpy' (a b w : Vec) (t : Int) (n : Nat) : dotN n w (fun j => a j + t * b j) = dotN n w a + t * dotN n w b := by
  rw [dot_comm, dot_axpy, dot_comm a, dot_comm b]
theorem dot_zero (w : Vec) : ∀ n, dotN n (fun _ => 0) w = 0
  | 0 => rfl
  | n + 1 => by simp [dotN, dot_zero w n]
theorem dot_zero' (w : Vec) (n : Nat) : dotN n w (fun _ => 0) = 0 := by rw [dot_comm, dot_zero]
theorem dot_congr {v v' w w' : Vec} : ∀ {n : Nat}, (∀ j, j < n → v j = v' j) → (∀ j, j < n → w j = w' j) → dotN n v w = dotN n v' w'
  | 0, _, _ => rfl
  | n + 1, h, k => by
    simp only [dotN]
    rw [dot_congr (fun j hj => h j (by omega)) (fun j hj => k j (by omega)), h n (by omega), k n (by omega)]
theorem dot_self_nonneg (v : Vec) : ∀ n, 0 ≤ dotN n v v
  | 0 => Int.le_refl _
  | n + 1 => by
    have h1 := dot_self_nonneg v n
    have h2 : 0 ≤ v n * v n := by
      rcases Int.le_total 0 (v n) with z | z
      · exact Int.mul_nonneg z z
      · exact Int.mul_nonneg_of_nonpos_of_nonpos z z
    simp only [dotN]
    omega
theorem dot_self_zero {v : Vec} : ∀ {n : Nat}, dotN n v v = 0 → ∀ j, j < n → v j = 0
  | 0, _, j, hj => absurd hj (Nat.not_lt_zero j)
  | n + 1, h, j, hj => by
    have h1 := dot_self_nonneg v n
    have h2 : 0 ≤ v n * v n := by
      rcases Int.le_total 0 (v n) with z | z
      · exact Int.mul_nonneg z z
      · exact Int.mul_nonneg_of_nonpos_of_nonpos z z
    simp only [dotN] at h
    by_cases e : j = n
    · subst e
      rcases Int.mul_eq_zero.mp (show v j * v j = 0 by omega) with z | z <;> exact z
    · exact dot_self_zero (n := n) (by omega) j (by omega)
theorem dot_unit (v : Vec) (i : Nat) : ∀ n, dotN n v (fun j => if j = i then 1 else 0) = if i < n then v i else 0
  | 0 => by simp [dotN]
  | n + 1 => by
    simp only [dotN, dot_unit v i n]
    by_cases h : n = i
    · subst h
      rw [if_neg (Nat.lt_irrefl n), if_pos rfl, if_pos (Nat.lt_succ_self n)]
      omega
    · rw [if_neg h]
      by_cases h2 : i < n
      · rw [if_pos h2, if_pos (by omega)]
        omega
      · rw [if_neg h2, if_neg (by omega)]
        omega
/-- a linear map takes lattices to lattices -/
theorem Lat.map {S S' : Vec → Prop} {φ : Vec → Vec} (h0 : φ (fun _ => 0) = fun _ => 0) (h1 : ∀ v u t, φ (fun j => v j + t * u j) = fun j => φ v j + t * φ u j) (hS : ∀ u, S u → Lat S' (φ u)) {v : Vec} (hv : Lat S v) : Lat S' (φ v) := by
  induction hv with
  | zero =>
    rw [h0]
    exact .zero
  | @step a u t _ hu ih =>
    rw [h1]
    exact ih.axpy t (hS u hu)
/-- a lattice is orthogonal to what its makers are orthogonal to -/
theorem Lat.orth {S : Vec → Prop} {n : Nat} {w v : Vec} (h : ∀ u, S u → dotN n u w = 0) (hv : Lat S v) : dotN n v w = 0 := by
  induction hv with
  | zero => exact dot_zero w n
  | @step a u t _ hu ih =>
    rw [dot_axpy, ih, h u hu]
    omega
theorem lat_or {f : Vec} {S : Vec → Prop} {v : Vec} (h : Lat (fun u => u = f ∨ S u) v) : ∃ c w, Lat S w ∧ v = fun j => c * f j + w j := by
  induction h with
  | zero => exact ⟨0, fun _ => 0, .zero, by funext j; grind⟩
  | @step a u t _ hu ih =>
    obtain ⟨c, w, hw, rfl⟩ := ih
    rcases hu with rfl | hu
    · exact ⟨c + t, w, hw, by funext j; grind⟩
    · exact ⟨c, fun j => w j + t * u j, .step t hw hu, by funext j; grind⟩
/-- who has nothing in the first k places is made of those who have nothing there -/
theorem ech_low : ∀ {F : List Vec} {hs : List Nat} {k : Nat} {S : Vec → Prop} {w : Vec}, Ech F hs → (∀ h ∈ hs, h < k) → (∀ u, S u → ∀ j, j < k → u j = 0) → Lat (fun u => u ∈ F ∨ S u) w → (∀ j, j < k → w j = 0) → Lat S w
  | [], [], k, S, w, _, _, _, h, _ => h.mono fun u hu => by
    rcases hu with hu | hu
    · cases hu
    · exact .of hu
  | f :: F, h :: hs, k, S, w, e, hl, hS, hw, hz => by
    have hk := hl h List.mem_cons_self
    obtain ⟨c, w', hw', rfl⟩ := lat_or (f := f) (S := fun u => u ∈ F ∨ S u) (hw.mono fun u hu => .of (by
      rcases hu with hu | hu
      · rcases List.mem_cons.mp hu with hu | hu
        · exact .inl hu
        · exact .inr (.inl hu)
      · exact .inr (.inr hu)))
    have z : w' h = 0 := hw'.zero_at fun u hu => by
      rcases hu with hu | hu
      · exact e.2.2.1 u hu h (Nat.le_refl _)
      · exact hS u hu h hk
    have := hz h hk
    simp only [z] at this
    have c0 : c = 0 := by
      rcases Int.mul_eq_zero.mp (show c * f h = 0 by omega) with y | y
      · exact y
      · have := e.2.1
        omega
    subst c0
    have ew : (fun j => 0 * f j + w' j) = w' := by funext j; grind
    rw [ew] at hz ⊢
    exact ech_low e.2.2.2 (fun q hq => hl q (List.mem_cons_of_mem _ hq)) hS hw' hz
  | [], _ :: _, _, _, _, e, _, _, _, _ => e.elim
  | _ :: _, [], _, _, _, e, _, _, _, _ => e.elim
end K52
set_option Elab.async false
set_option linter.all false
set_option maxRecDepth 100000
set_option maxHeartbeats 1000000
/-! still_rows gives the plain form of all that the rows make nothing of. -/
namespace K52
open PySem PySem.Spec L2 Sm
/-- what is orthogonal to all rows -/
def Ker (n : Nat) (m : Mat) (v : Vec) : Prop := (∀ r ∈ m, dotN n (vec r) v = 0) ∧ ∀ j, n ≤ j → v j = 0
def AugI (k n : Nat) (m : Mat) (w : Vec) : Prop := (∀ i r, m[i]? = some r → w i = dotN n (vec r) (fun j => w (k + j))) ∧ ∀ j, k + n ≤ j → w j = 0
def augR (m : Mat) (n i0 : Nat) : Row := (m.map fun r => r.getD i0 0) ++ unitP n i0
theorem aug_get {m : Mat} {n i0 : Nat} : (augP m n)[i0]? = if i0 < n then some (augR m n i0) else none := by
  unfold augP
  rw [List.getElem?_map]
  split
  · rename_i h
    rw [List.getElem?_range h]
    rfl
  · rename_i h
    rw [List.getElem?_eq_none (by rw [List.length_range]; omega)]
    rfl
theorem aug_vec1 {m : Mat} {n i0 i : Nat} {r : Row} (h : m[i]? = some r) : vec (augR m n i0) i = vec r i0 := by
  unfold vec augR
  have hl := lt_of_get h
  rw [List.getD_eq_getElem?_getD, List.getElem?_append_left (by rw [List.length_map]; exact hl), List.getElem?_map, h]
  rfl
theorem aug_vec2 {m : Mat} {n i0 j : Nat} (hi : i0 < n) : vec (augR m n i0) (m.length + j) = if j = i0 then 1 else 0 := by
  unfold vec augR unitP
  rw [List.getD_eq_getElem?_getD, List.getElem?_append_right (by rw [List.length_map]; omega), List.length_map, Nat.add_sub_cancel_left, List.getElem?_map]
  rcases Nat.lt_or_ge j n with h | h
  · rw [List.getElem?_range h]
    rfl
  · rw [List.getElem?_eq_none (by rw [List.length_range]; exact h), if_neg (by omega)]
    rfl
theorem aug_to {m : Mat} {n : Nat} {w : Vec} (h : Lat (T 0 (augP m n)) w) : AugI m.length n m w := by
  induction h with
  | zero => exact ⟨fun i r _ => (dot_zero' _ n).symm, fun _ _ => rfl⟩
  | @step a u t _ hu ih =>
    have gen : AugI m.length n m u := by
      obtain ⟨i0, r0, _, h2, rfl⟩ := hu
      rw [aug_get] at h2
      split at h2
      · rename_i hi
        cases h2
        refine ⟨fun i r hr => ?_, fun j hj => ?_⟩
        · rw [aug_vec1 hr, dot_congr (v' := vec r) (w' := fun j => if j = i0 then 1 else 0) (fun _ _ => rfl) (fun j _ => aug_vec2 hi), dot_unit, if_pos hi]
        · have := aug_vec2 (m := m) (j := j - m.length) hi
          rw [show m.length + (j - m.length) = j by omega, if_neg (by omega)] at this
          exact this
      · cases h2
    refine ⟨fun i r hr => ?_, fun j hj => ?_⟩
    · show a i + t * u i = _
      rw [ih.1 i r hr, gen.1 i r hr, ← dot_axpy']
    · show a j + t * u j = 0
      rw [ih.2 j hj, gen.2 j hj]
      omega
theorem aug_from {m : Mat} {n : Nat} {w : Vec} (h : AugI m.length n m w) : Lat (T 0 (augP m n)) w := by
  have part : ∀ t, t ≤ n → ∃ u, Lat (T 0 (augP m n)) u ∧ ∀ j, j < n → u (m.length + j) = if j < t then w (m.length + j) else 0 := fun t => by
    induction t with
    | zero => exact fun _ => ⟨_, .zero, fun j _ => by rw [if_neg (Nat.not_lt_zero j)]⟩
    | succ t ih =>
      intro ht
      obtain ⟨u, hu, hx⟩ := ih (by omega)
      refine ⟨_, .step (w (m.length + t)) hu ⟨t, augR m n t, Nat.zero_le _, by rw [aug_get, if_pos (by omega)], rfl⟩, fun j hj => ?_⟩
      show u (m.length + j) + w (m.length + t) * vec (augR m n t) (m.length + j) = _
      rw [hx j hj, aug_vec2 (by omega)]
      by_cases e : j = t
      · subst e
        rw [if_neg (Nat.lt_irrefl j), if_pos rfl, if_pos (Nat.lt_succ_self j)]
        omega
      · rw [if_neg e]
        by_cases e2 : j < t
        · rw [if_pos e2, if_pos (by omega)]
          omega
        · rw [if_neg e2, if_neg (by omega)]
          omega
  obtain ⟨u, hu, hx⟩ := part n (Nat.le_refl n)
  have hA := aug_to hu
  have e : u = w := by
    funext j
    rcases Nat.lt_or_ge j m.length with z | z
    · have hr : m[j]? = some m[j] := List.getElem?_eq_getElem z
      rw [hA.1 j _ hr, h.1 j _ hr]
      exact dot_congr (fun _ _ => rfl) fun i hi => by rw [hx i hi, if_pos hi]
    · rcases Nat.lt_or_ge j (m.length + n) with y | y
      · have := hx (j - m.length) (by omega)
        rw [if_pos (by omega), show m.length + (j - m.length) = j by omega] at this
        exact this
      · rw [hA.2 j y, h.2 j y]
  rw [← e]
  exact hu
/-- the shift to the right, and back -/
def lift (k : Nat) (v : Vec) : Vec := fun i => if i < k then 0 else v (i - k)
theorem vec_drop (r : Row) (k : Nat) : vec (r.drop k) = fun j => vec r (k + j) := by
  funext j
  unfold vec
  rw [List.getD_eq_getElem?_getD, List.getD_eq_getElem?_getD, List.getElem?_drop]
theorem bot_ker {m m' : Mat} {n M : Nat} {hs : List Nat} (U : Upto (m.length + n) (augP m n) M m.length m' hs) (v : Vec) : Lat (T 0 (botP m' hs.length m.length)) v ↔ Ker n m v := by
  have low : ∀ u, T hs.length m' u → ∀ j, j < m.length → u j = 0 := fun u ⟨i, r, h1, h2, h3⟩ j hj => by
    rw [h3]
    exact U.rest i r h1 h2 j hj
  have keyL : Lat (T 0 (botP m' hs.length m.length)) v → Lat (T hs.length m') (lift m.length v) := fun hv => by
    refine hv.map (φ := lift m.length) (by funext i; unfold lift; split <;> rfl) (fun a b t => by funext i; unfold lift; split <;> simp) fun u hu => ?_
    obtain ⟨i, r, _, h2, rfl⟩ := hu
    unfold botP at h2
    rw [List.getElem?_map, List.getElem?_drop, Option.map_eq_some_iff] at h2
    obtain ⟨s, hs', rfl⟩ := h2
    refine .of ⟨hs.length + i, s, Nat.le_add_right _ _, hs', ?_⟩
    funext j
    unfold lift
    split
    · rename_i hj
      exact (low (vec s) ⟨hs.length + i, s, Nat.le_add_right _ _, hs', rfl⟩ j hj).symm
    · rename_i hj
      rw [vec_drop]
      show vec s (m.length + (j - m.length)) = vec s j
      rw [show m.length + (j - m.length) = j by omega]
  have keyR : Lat (T hs.length m') (lift m.length v) → Lat (T 0 (botP m' hs.length m.length)) v := fun hv => by
    have := hv.map (S' := T 0 (botP m' hs.length m.length)) (φ := fun w j => w (m.length + j)) rfl (fun a b t => rfl) fun u hu => by
      obtain ⟨i, r, h1, h2, rfl⟩ := hu
      refine .of ⟨i - hs.length, r.drop m.length, Nat.zero_le _, ?_, (vec_drop r _).symm⟩
      unfold botP
      rw [List.getElem?_map, List.getElem?_drop, show hs.length + (i - hs.length) = i by omega, h2]
      rfl
    have e : (fun j => lift m.length v (m.length + j)) = v := by
      funext j
      unfold lift
      rw [if_neg (by omega), Nat.add_sub_cancel_left]
    rw [e] at this
    exact this
  have dotL : ∀ r, dotN n (vec r) (fun j => lift m.length v (m.length + j)) = dotN n (vec r) v := fun r => dot_congr (fun _ _ => rfl) fun j _ => by
    unfold lift
    rw [if_neg (by omega), Nat.add_sub_cancel_left]
  constructor
  · intro hv
    have h1 := keyL hv
    have h2 : Lat (T 0 m') (lift m.length v) := h1.mono fun u hu => .of (T_mono (Nat.zero_le _) u hu)
    have h3 := aug_to (U.same.from' _ h2)
    refine ⟨fun r hr => ?_, fun j hj => ?_⟩
    · obtain ⟨i, hi⟩ := List.getElem?_of_mem hr
      have := h3.1 i r hi
      rw [dotL] at this
      rw [← this]
      unfold lift
      rw [if_pos (lt_of_get hi)]
    · have := h3.2 (m.length + j) (by omega)
      unfold lift at this
      rw [if_neg (by omega), Nat.add_sub_cancel_left] at this
      exact this
  · intro hk
    apply keyR
    have h1 : AugI m.length n m (lift m.length v) := by
      refine ⟨fun i r hr => ?_, fun j hj => ?_⟩
      · rw [dotL, hk.1 r (List.mem_of_getElem? hr)]
        unfold lift
        rw [if_pos (lt_of_get hr)]
      · unfold lift
        rw [if_neg (by omega)]
        exact hk.2 _ (by omega)
    have h2 := U.same.to _ (aug_from h1)
    refine ech_low U.ech U.lt low (h2.mono fun u hu => .of ?_) fun j hj => by
      unfold lift
      rw [if_pos hj]
    obtain ⟨i, r, _, g2, rfl⟩ := hu
    rcases Nat.lt_or_ge i hs.length with z | z
    · exact .inl (List.mem_of_getElem? (tk_get z g2))
    · exact .inr ⟨i, r, z, g2, rfl⟩
end K52
set_option linter.all false
/-! More vectors than places depend on each other; the dimension law. -/
namespace K52
theorem dot_eq_zero {v w : Vec} : ∀ {n : Nat}, (∀ j, j < n → w j = 0) → dotN n v w = 0
  | 0, _ => rfl
  | n + 1, h => by
    simp only [dotN]
    rw [dot_eq_zero fun j hj => h j (by omega), h n (by omega)]
    omega
/-- a value changed at one place -/
theorem dot_upd {v v' w w' : Vec} {p : Nat} : ∀ {n : Nat}, p < n → (∀ i, i ≠ p → v' i * w' i = v i * w i) → dotN n v' w' = dotN n v w - v p * w p + v' p * w' p
  | 0, h, _ => absurd h (Nat.not_lt_zero p)
  | n + 1, h, e => by
    simp only [dotN]
    by_cases hp : p = n
    · subst hp
      have : dotN p v' w' = dotN p v w := by
        have gen : ∀ m, m ≤ p → dotN m v' w' = dotN m v w := fun m => by
          induction m with
          | zero => intro _; rfl
          | succ m ih =>
            intro hm
            simp only [dotN]
            rw [ih (by omega), e m (by omega)]
        exact gen p (Nat.le_refl p)
      omega
    · rw [dot_upd (n := n) (by omega) e, e n (fun z => hp z.symm)]
      omega
def swp (p q : Nat) (i : Nat) : Nat := if i = p then q else if i = q then p else i
theorem swp_swp (p q i : Nat) : swp p q (swp p q i) = i := by
  unfold swp
  by_cases q1 : i = p
  · subst q1
    rw [if_pos rfl]
    by_cases q2 : q = i
    · rw [if_pos q2]; exact q2
    · rw [if_neg q2, if_pos rfl]
  · rw [if_neg q1]
    by_cases q2 : i = q
    · rw [if_pos q2, if_pos rfl, q2]
    · rw [if_neg q2, if_neg q1, if_neg q2]
theorem dot_swp {v w : Vec} {p n : Nat} (h : p ≤ n) : dotN (n + 1) (fun i => v (swp p n i)) (fun i => w (swp p n i)) = dotN (n + 1) v w := by
  by_cases hp : p = n
  · subst hp
    have e : ∀ i, swp p p i = i := fun i => by
      unfold swp
      split
      · rename_i h
        exact h.symm
      · rfl
    simp only [e]
  · simp only [dotN]
    have hlt : p < n := by omega
    have e1 : swp p n n = p := by
      unfold swp
      rw [if_neg (by omega), if_pos rfl]
    have e2 : swp p n p = n := by
      unfold swp
      rw [if_pos rfl]
    rw [e1]
    -- the first n places: only p is changed
    have gen : dotN n (fun i => v (swp p n i)) (fun i => w (swp p n i)) = dotN n (fun i => if i = p then v n else v i) (fun i => if i = p then w n else w i) := dot_congr (fun j hj => by
      show v (swp p n j) = _
      unfold swp
      by_cases h : j = p
      · rw [if_pos h, if_pos h]
      · rw [if_neg h, if_neg h, if_neg (by omega)]) (fun j hj => by
      show w (swp p n j) = _
      unfold swp
      by_cases h : j = p
      · rw [if_pos h, if_pos h]
      · rw [if_neg h, if_neg h, if_neg (by omega)])
    rw [gen, dot_upd (v := v) (w := w) (p := p) hlt fun i hi => by simp only [if_neg hi]]
    simp only [if_true]
    omega
/-- k + 1 vectors in k places -/
theorem dep : ∀ (k : Nat) (A : Nat → Nat → Int), ∃ c : Vec, (∃ i, i ≤ k ∧ c i ≠ 0) ∧ ∀ j, j < k → dotN (k + 1) c (fun i => A i j) = 0
  | 0, A => ⟨fun _ => 1, ⟨0, Nat.le_refl 0, by decide⟩, fun j hj => absurd hj (Nat.not_lt_zero j)⟩
  | k + 1, A => by
    by_cases hz : ∀ i, i ≤ k + 1 → A i k = 0
    · obtain ⟨c, ⟨i0, h0, h1⟩, h2⟩ := dep k A
      refine ⟨fun i => if i = k + 1 then 0 else c i, ⟨i0, by omega, ?_⟩, fun j hj => ?_⟩
      · show (if i0 = k + 1 then 0 else c i0) ≠ 0
        rw [if_neg (by omega)]
        exact h1
      · by_cases e : j = k
        · subst e
          exact dot_eq_zero fun i hi => hz i (by omega)
        · simp only [dotN, if_true]
          have := h2 j (by omega)
          simp only [dotN] at this
          rw [if_neg (by omega), dot_congr (v' := c) (w' := fun i => A i j) (fun i hi => by
            show (if i = k + 1 then 0 else c i) = c i
            rw [if_neg (by omega)]) (fun _ _ => rfl)]
          omega
    · obtain ⟨p, hp⟩ : ∃ p, ¬ (p ≤ k + 1 → A p k = 0) := Classical.not_forall.mp hz
      have hp1 : p ≤ k + 1 := by
        rcases Nat.lt_or_ge (k + 1) p with z | z
        · exact absurd (fun h : p ≤ k + 1 => by omega) hp
        · exact z
      have hp2 : A p k ≠ 0 := fun z => hp fun _ => z
      -- the pivot is put last
      let A' : Nat → Nat → Int := fun i j => A (swp p (k + 1) i) j
      have a1 : A' (k + 1) k ≠ 0 := by
        show A (swp p (k + 1) (k + 1)) k ≠ 0
        have : swp p (k + 1) (k + 1) = p := by
          unfold swp
          split
          · rename_i h
            exact h
          · rw [if_pos rfl]
        rw [this]
        exact hp2
      obtain ⟨c, ⟨i0, h0, h1⟩, h2⟩ := dep k (fun i j => A' (k + 1) k * A' i j - A' i k * A' (k + 1) j)
      let c' : Vec := fun i => if i = k + 1 then -(dotN (k + 1) c fun i => A' i k) else A' (k + 1) k * c i
      have e1 : ∀ j, dotN (k + 1) c' (fun i => A' i j) = A' (k + 1) k * dotN (k + 1) c (fun i => A' i j) := fun j => by
        have g1 : dotN (k + 1) c' (fun i => A' i j) = dotN (k + 1) (fun i => (0 : Int) + A' (k + 1) k * c i) (fun i => A' i j) := dot_congr (fun i hi => by
          show (if i = k + 1 then _ else A' (k + 1) k * c i) = _
          rw [if_neg (by omega)]
          omega) (fun _ _ => rfl)
        rw [g1, dot_axpy (fun _ => 0) c, dot_zero]
        omega
      have e2 : ∀ j, dotN (k + 2) c' (fun i => A' i j) = A' (k + 1) k * dotN (k + 1) c (fun i => A' i j) - (dotN (k + 1) c fun i => A' i k) * A' (k + 1) j := fun j => by
        show dotN (k + 1) c' (fun i => A' i j) + c' (k + 1) * A' (k + 1) j = _
        have g2 : c' (k + 1) = -(dotN (k + 1) c fun i => A' i k) := if_pos rfl
        rw [e1, g2]
        grind
      have e3 : ∀ j, dotN (k + 1) c (fun i => A' (k + 1) k * A' i j - A' i k * A' (k + 1) j) = A' (k + 1) k * dotN (k + 1) c (fun i => A' i j) - (dotN (k + 1) c fun i => A' i k) * A' (k + 1) j := fun j => by
        have g1 : dotN (k + 1) c (fun i => A' (k + 1) k * A' i j - A' i k * A' (k + 1) j) = dotN (k + 1) c (fun i => (fun i => (0 : Int) + A' (k + 1) k * A' i j) i + (-(A' (k + 1) j)) * A' i k) := dot_congr (fun _ _ => rfl) fun i _ => by
          simp only
          grind
        rw [g1, dot_axpy' (fun i => (0 : Int) + A' (k + 1) k * A' i j) (fun i => A' i k), dot_axpy' (fun _ => 0) (fun i => A' i j), dot_zero']
        grind
      refine ⟨fun i => c' (swp p (k + 1) i), ⟨swp p (k + 1) i0, ?_, ?_⟩, fun j hj => ?_⟩
      · unfold swp
        split
        · exact Nat.le_refl _
        · split
          · exact hp1
          · omega
      · show c' (swp p (k + 1) (swp p (k + 1) i0)) ≠ 0
        have e : swp p (k + 1) (swp p (k + 1) i0) = i0 := swp_swp _ _ _
        rw [e]
        show (if i0 = k + 1 then _ else A' (k + 1) k * c i0) ≠ 0
        rw [if_neg (by omega)]
        exact Int.mul_ne_zero a1 h1
      · have g := dot_swp (v := fun i => c' (swp p (k + 1) i)) (w := fun i => A i j) (p := p) (n := k + 1) hp1
        rw [← g]
        have inv : ∀ i, swp p (k + 1) (swp p (k + 1) i) = i := swp_swp _ _
        have g2 : dotN (k + 1 + 1) (fun i => (fun i => c' (swp p (k + 1) i)) (swp p (k + 1) i)) (fun i => (fun i => A i j) (swp p (k + 1) i)) = dotN (k + 2) c' (fun i => A' i j) := dot_congr (fun i _ => by
          show c' (swp p (k + 1) (swp p (k + 1) i)) = c' i
          rw [inv]) (fun _ _ => rfl)
        rw [g2, e2]
        by_cases e : j = k
        · subst e
          grind
        · rw [← e3]
          exact h2 j (by omega)
/-- what rows make, by their coefficients -/
def comb : List Int → List Vec → Vec
  | c :: cs, f :: F => fun j => c * f j + comb cs F j
  | _, _ => fun _ => 0
theorem comb_lat : ∀ (cs : List Int) (F : List Vec), LatL F (comb cs F)
  | [], F => .zero
  | c :: cs, [] => .zero
  | c :: cs, f :: F => lat_of_cons c (comb_lat cs F)
theorem comb_indep : ∀ {cs : List Int} {F : List Vec} {hs : List Nat}, Ech F hs → cs.length = F.length → comb cs F = (fun _ => 0) → ∀ c ∈ cs, c = 0
  | [], _, _, _, _, _ => fun c hc => by cases hc
  | c :: cs, f :: F, h :: hs, e, hl, hz => fun x hx => by
    have z : comb cs F h = 0 := (comb_lat cs F).zero_at fun u hu => e.2.2.1 u hu h (Nat.le_refl _)
    have := congrFun hz h
    simp only [comb, z] at this
    have c0 : c = 0 := by
      rcases Int.mul_eq_zero.mp (show c * f h = 0 by omega) with y | y
      · exact y
      · have := e.2.1
        omega
    rcases List.mem_cons.mp hx with rfl | hx
    · exact c0
    · refine comb_indep e.2.2.2 (by simpa using hl) ?_ x hx
      funext j
      have := congrFun hz j
      simp only [comb, c0] at this
      omega
  | c :: cs, [], _, _, hl, _ => by simp at hl
  | c :: cs, f :: F, [], e, _, _ => e.elim
theorem comb_dot {w : Vec} {n : Nat} : ∀ (cs : List Int) (F : List Vec), (∀ f ∈ F, dotN n f w = 0) → dotN n (comb cs F) w = 0
  | [], F, _ => dot_zero w n
  | c :: cs, [], _ => dot_zero w n
  | c :: cs, f :: F, h => by
    have e : comb (c :: cs) (f :: F) = fun j => comb cs F j + c * f j := by funext j; simp only [comb]; omega
    rw [e, dot_axpy, comb_dot cs F fun g hg => h g (List.mem_cons_of_mem _ hg), h f List.mem_cons_self]
    omega
theorem comb_at : ∀ (cs : List Int) (F : List Vec) (j : Nat), cs.length = F.length → comb cs F j = dotN F.length (fun i => cs.getD i 0) (fun i => (F.getD i fun _ => 0) j)
  | [], [], j, _ => rfl
  | c :: cs, f :: F, j, hl => by
    have ih := comb_at cs F j (by simpa using hl)
    have shift : ∀ (n : Nat) (v w : Vec), dotN (n + 1) v w = v 0 * w 0 + dotN n (fun i => v (i + 1)) (fun i => w (i + 1)) := fun n => by
      induction n with
      | zero => intro v w; simp [dotN]
      | succ n ih2 =>
        intro v w
        show dotN (n + 1) v w + v (n + 1) * w (n + 1) = _
        rw [ih2]
        simp only [dotN]
        omega
    show c * f j + comb cs F j = _
    rw [ih, List.length_cons, shift]
    rfl
  | [], _ :: _, _, hl => by simp at hl
  | _ :: _, [], _, hl => by simp at hl
end K52
set_option linter.all false
/-! The dimension law. -/
namespace K52
theorem dot_cut {v w : Vec} {m : Nat} (h : ∀ i, m ≤ i → v i = 0) : ∀ {n : Nat}, m ≤ n → dotN n v w = dotN m v w
  | 0, hn => by
    have : m = 0 := by omega
    rw [this]
  | n + 1, hn => by
    by_cases e : m = n + 1
    · rw [e]
    · simp only [dotN]
      rw [dot_cut h (by omega : m ≤ n), h n (by omega)]
      omega
theorem comb_app : ∀ (cs : List Int) (F : List Vec) (ds : List Int) (G : List Vec), cs.length = F.length → comb (cs ++ ds) (F ++ G) = fun j => comb cs F j + comb ds G j
  | [], [], ds, G, _ => by
    funext j
    simp only [List.nil_append, comb]
    omega
  | c :: cs, f :: F, ds, G, hl => by
    have ih := comb_app cs F ds G (by simpa using hl)
    funext j
    simp only [List.cons_append, comb, ih]
    omega
  | [], _ :: _, _, _, hl => by simp at hl
  | _ :: _, [], _, _, hl => by simp at hl
theorem comb_supp {n : Nat} : ∀ (cs : List Int) (F : List Vec), (∀ f ∈ F, ∀ j, n ≤ j → f j = 0) → ∀ j, n ≤ j → comb cs F j = 0 := fun cs F h j hj => (comb_lat cs F).zero_at fun u hu => h u hu j hj
theorem dim_law {n : Nat} {F G : List Vec} {hs ks : List Nat} (eF : Ech F hs) (eG : Ech G ks) (sF : ∀ f ∈ F, ∀ j, n ≤ j → f j = 0) (sG : ∀ g ∈ G, ∀ j, n ≤ j → g j = 0) (orth : ∀ f ∈ F, ∀ g ∈ G, dotN n f g = 0)
    (full : ∀ w : Vec, (∀ j, n ≤ j → w j = 0) → (∀ f ∈ F, dotN n f w = 0) → LatL G w) : F.length + G.length = n := by
  rcases Nat.lt_trichotomy (F.length + G.length) n with hlt | he | hgt
  · -- too few
    exfalso
    obtain ⟨c, ⟨i0, h0, h1⟩, h2⟩ := dep (F.length + G.length) (fun i j => ((F ++ G).getD j fun _ => 0) i)
    let w : Vec := fun i => if i ≤ F.length + G.length then c i else 0
    have wz : ∀ i, F.length + G.length + 1 ≤ i → w i = 0 := fun i hi => if_neg (by omega)
    have wo : ∀ f ∈ F ++ G, dotN n f w = 0 := fun f hf => by
      obtain ⟨j, hj⟩ := List.getElem?_of_mem hf
      have hjl : j < F.length + G.length := by
        rcases Nat.lt_or_ge j (F ++ G).length with z | z
        · rw [List.length_append] at z; exact z
        · rw [List.getElem?_eq_none z] at hj; cases hj
      have := h2 j hjl
      rw [dot_comm, dot_cut wz (by omega : F.length + G.length + 1 ≤ n)]
      rw [← this]
      exact dot_congr (fun i hi => if_pos (by omega)) fun i _ => by
        show f i = ((F ++ G).getD j fun _ => 0) i
        rw [List.getD_eq_getElem?_getD, hj]
        rfl
    have wl := full w (fun j hj => wz j (by omega)) fun f hf => wo f (List.mem_append_left _ hf)
    have ww : dotN n w w = 0 := wl.orth fun g hg => wo g (List.mem_append_right _ hg)
    have := dot_self_zero ww i0 (by omega)
    have e : w i0 = c i0 := if_pos h0
    rw [e] at this
    exact h1 this
  · exact he
  · -- too many
    exfalso
    obtain ⟨c, ⟨i0, h0, h1⟩, h2⟩ := dep n (fun i j => ((F ++ G).getD i fun _ => 0) j)
    let cf : Vec := fun i => if i ≤ n then c i else 0
    let cs : List Int := (List.range F.length).map cf
    let ds : List Int := (List.range G.length).map fun i => cf (F.length + i)
    have lcs : cs.length = F.length := by simp [cs]
    have lds : ds.length = G.length := by simp [ds]
    have getc : ∀ i, i < F.length + G.length → (cs ++ ds).getD i 0 = cf i := fun i hi => by
      rw [List.getD_eq_getElem?_getD]
      rcases Nat.lt_or_ge i F.length with z | z
      · rw [List.getElem?_append_left (by omega), List.getElem?_map, List.getElem?_range z]
        rfl
      · rw [List.getElem?_append_right (by omega), lcs, List.getElem?_map, List.getElem?_range (by omega)]
        show cf (F.length + (i - F.length)) = cf i
        rw [show F.length + (i - F.length) = i by omega]
    have hz : comb (cs ++ ds) (F ++ G) = fun _ => 0 := by
      funext j
      rcases Nat.lt_or_ge j n with z | z
      · rw [comb_at _ _ _ (by rw [List.length_append, List.length_append, lcs, lds]), List.length_append]
        have e := h2 j z
        rw [dot_congr (v' := cf) (w' := fun i => ((F ++ G).getD i fun _ => 0) j) (fun i hi => getc i hi) (fun _ _ => rfl), dot_cut (m := n + 1) (fun i hi => if_neg (by omega)) (by omega)]
        refine Eq.trans ?_ e
        exact dot_congr (fun i hi => if_pos (by omega)) fun _ _ => rfl
      · exact comb_supp _ _ (fun f hf => by
          rcases List.mem_append.mp hf with hf | hf
          · exact sF f hf
          · exact sG f hf) j z
    rw [comb_app cs F ds G lcs] at hz
    -- the two halves are orthogonal and opposite
    have hu : ∀ j, comb cs F j = -(comb ds G j) := fun j => by
      have : comb cs F j + comb ds G j = 0 := congrFun hz j
      omega
    have uu : dotN n (comb cs F) (comb cs F) = 0 := by
      refine comb_dot cs F fun f hf => ?_
      have : dotN n (comb ds G) f = 0 := comb_dot ds G fun g hg => by
        rw [dot_comm]
        exact orth f hf g hg
      have e : comb cs F = fun j => (fun _ => (0 : Int)) j + (-1) * comb ds G j := by
        funext j
        rw [hu j]
        simp only
        omega
      rw [e, dot_axpy', dot_zero', dot_comm, this]
      omega
    have u0 : comb cs F = fun _ => 0 := by
      funext j
      rcases Nat.lt_or_ge j n with z | z
      · exact dot_self_zero uu j z
      · exact comb_supp _ _ sF j z
    have v0 : comb ds G = fun _ => 0 := by
      funext j
      have h3 := hu j
      have h4 : comb cs F j = 0 := congrFun u0 j
      omega
    have z1 := comb_indep eF lcs u0
    have z2 := comb_indep eG lds v0
    have ci : cf i0 = c i0 := if_pos h0
    rcases Nat.lt_or_ge i0 F.length with z | z
    · have := z1 (cf i0) (List.mem_map.mpr ⟨i0, List.mem_range.mpr z, rfl⟩)
      rw [ci] at this
      exact h1 this
    · have := z2 (cf i0) (List.mem_map.mpr ⟨i0 - F.length, List.mem_range.mpr (by omega), by rw [show F.length + (i0 - F.length) = i0 by omega]⟩)
      rw [ci] at this
      exact h1 this
end K52
set_option Elab.async false
set_option linter.all false
set_option maxRecDepth 100000
set_option maxHeartbeats 1000000
/-! The law's own small defs. -/
namespace K52
open PySem PySem.Spec L2 Sm
def sumP (a b : Row) (t : Int) : Row := (a.zip b).map fun p => p.1 + t * p.2
theorem g_sum_eq {a b : Row} {da db : D} {t : Int} (ha : RowD a da) (hb : RowD b db) {k m : Nat} (ht : t.natAbs < 2 ^ k) (hbb : Bits m b) (hk : k + m < 134000000) (hl : a.length ≤ 1000000) : g__law_sum [da, db, .int t] = some (rowT (sumP a b t)) := by
  have hsa := ha.seq
  have hsb := hb.seq
  have key : lcF (gT 2 (gCons (gN 4) (gCons (gN 3) gNil))) bYes (eOp pAdd (eVar 4) (eOp pMul (eVar 2) (eVar 3))) [4, 3] ((a.zip b).map fun p => PyData.tuple [.int p.1, .int p.2]) [.val da, .val db, .val (.int t), .no, .no] = some ((a.zip b).map fun p => .int (p.1 + t * p.2), [.val da, .val db, .val (.int t), .no, .no]) := by
    refine lcF_map _ _ _ fun p hp => ?_
    have hy : p.2.natAbs < 2 ^ m := hbb p.2 (List.of_mem_zip hp).2
    have hc := mulG ht hy hk
    refine ⟨[.val da, .val db, .val (.int t), .val (.int p.2), .val (.int p.1)], _, .val (.int (p.1 + t * p.2)), [.val da, .val db, .val (.int t), .val (.int p.2), .val (.int p.1)], _, by simp, rfl, by simp [hc], rfl, by simp⟩
  have hi : lZi (aCons (eVar 0) (aCons (eVar 1) aNil)) [.val da, .val db, .val (.int t), .no, .no] = some ((a.zip b).map fun p => PyData.tuple [.int p.1, .int p.2], [.val da, .val db, .val (.int t), .no, .no]) := by simp [hsa, hsb, ziD_rows]
  have hc := eLc_ok hi rfl key (by rw [List.length_map, List.length_zip]; omega)
  have e : ((a.zip b).map fun p => PyData.int (p.1 + t * p.2)) = (sumP a b t).map PyData.int := by
    unfold sumP
    rw [List.map_map]
    rfl
  rw [e] at hc
  exact runP_ok rfl (xRet_ok (eCb_ok (aCons_ok hc u_aNil) rfl u_pTupL) rfl)
/-! ### the bag -/
def bagD (b0 b1 b2 : Int) (cells : Row) : D := .list [.int b0, .int b1, .int b2, rowL cells]
structure BagOk (c : Nat) (d : D) : Prop where
  ex : ∃ (b0 b1 b2 : Int) (cells : Row), d = bagD b0 b1 b2 cells ∧ 0 ≤ b0 ∧ 0 ≤ b1 ∧ b1 < 2147483647 ∧ 0 ≤ b2 ∧ b2 ≤ c ∧ cells.length ≤ 63 ∧ ∀ x ∈ cells, 0 ≤ x
abbrev te (b0 b1 b2 : Int) (cells : Row) (k : Int) (s2 s3 s4 s5 s6 : Sl) : Env' := [.own true (bagD b0 b1 b2 cells), .val (.int k), s2, s3, s4, s5, s6]
section
variable {b0 b1 b2 : Int} {cells : Row} {k : Int} {s2 s3 s4 s5 s6 : Sl}
theorem it0 : eOp pIx (eVar 0) (eC (.int 0)) (te b0 b1 b2 cells k s2 s3 s4 s5 s6) = some (.val (.int b0), te b0 b1 b2 cells k s2 s3 s4 s5 s6) := rfl
theorem it1 : eOp pIx (eVar 0) (eC (.int 1)) (te b0 b1 b2 cells k s2 s3 s4 s5 s6) = some (.val (.int b1), te b0 b1 b2 cells k s2 s3 s4 s5 s6) := rfl
theorem it2 : eOp pIx (eVar 0) (eC (.int 2)) (te b0 b1 b2 cells k s2 s3 s4 s5 s6) = some (.val (.int b2), te b0 b1 b2 cells k s2 s3 s4 s5 s6) := rfl
theorem it3 : eOp pIx (eVar 0) (eC (.int 3)) (te b0 b1 b2 cells k s2 s3 s4 s5 s6) = some (.val (rowL cells), te b0 b1 b2 cells k s2 s3 s4 s5 s6) := rfl
theorem cut_sub {α : Type} (xs : List α) (lo hi : Option Int) : (cutG xs lo hi).length ≤ xs.length ∧ ∀ x ∈ cutG xs lo hi, x ∈ xs := by
  unfold cutG
  refine ⟨by rw [List.length_take, List.length_drop]; omega, fun x hx => List.mem_of_mem_drop (List.mem_of_mem_take hx)⟩
theorem cell_ok (hl : cells.length ≤ 63) (h0 : ∀ x ∈ cells, 0 ≤ x) : ∃ x : Int, 0 ≤ x ∧ eOp pIx (eOp pAdd (eSl (eOp pIx (eVar 0) (eC (.int 3))) (oSome (eOp pIx (eVar 0) (eC (.int 2)))) oNone) (eLst (aCons (eC (.int 0)) aNil))) (eC (.int 0)) (te b0 b1 b2 cells k s2 s3 s4 s5 s6) = some (.val (.int x), te b0 b1 b2 cells k s2 s3 s4 s5 s6) := by
  have cs := cut_sub cells (some b2) none
  have hcut : cutG (cells.map PyData.int) (some b2) none = (cutG cells (some b2) none).map PyData.int := cut_map _ _ _ _
  have q2 : oSome (eOp pIx (eVar 0) (eC (.int 2))) (te b0 b1 b2 cells k s2 s3 s4 s5 s6) = some (some b2, te b0 b1 b2 cells k s2 s3 s4 s5 s6) := rfl
  have q3 : pSl (rowL cells) (some b2) none = some (.fr (rowL (cutG cells (some b2) none))) := by
    unfold rowL
    rw [u_pSlL, hcut]
  have s1 : eSl (eOp pIx (eVar 0) (eC (.int 3))) (oSome (eOp pIx (eVar 0) (eC (.int 2)))) oNone (te b0 b1 b2 cells k s2 s3 s4 s5 s6) = some (.fr (rowL (cutG cells (some b2) none)), te b0 b1 b2 cells k s2 s3 s4 s5 s6) := by
    simp only [eSl, it3, q2, u_oNone, Option.bind_some, u_fz1, u_deref1, q3, Option.map_some]
  have s2' : eLst (aCons (eC (.int 0)) aNil) (te b0 b1 b2 cells k s2 s3 s4 s5 s6) = some (.fr (rowL [0]), te b0 b1 b2 cells k s2 s3 s4 s5 s6) := by simp [rowL]
  have s3' : eOp pAdd (eSl (eOp pIx (eVar 0) (eC (.int 3))) (oSome (eOp pIx (eVar 0) (eC (.int 2)))) oNone) (eLst (aCons (eC (.int 0)) aNil)) (te b0 b1 b2 cells k s2 s3 s4 s5 s6) = some (.fr (rowL (cutG cells (some b2) none ++ [0])), te b0 b1 b2 cells k s2 s3 s4 s5 s6) := by
    refine eOp_ok s1 s2' rfl rfl ?_
    unfold rowL
    rw [u_pAdd3, if_pos (by rw [List.length_map, List.length_map, List.length_singleton]; omega), List.map_append]
  obtain ⟨x, hx, h0x⟩ : ∃ x, (cutG cells (some b2) none ++ [0])[0]? = some x ∧ 0 ≤ x := by
    cases hc : cutG cells (some b2) none with
    | nil => exact ⟨0, rfl, Int.le_refl 0⟩
    | cons y ys => exact ⟨y, rfl, h0 y (cs.2 y (by rw [hc]; exact List.mem_cons_self))⟩
  refine ⟨x, h0x, eOp_ok s3' (u_eC _) rfl rfl ?_⟩
  unfold rowL
  have hat := atI_get (xs := (cutG cells (some b2) none ++ [0]).map PyData.int) (j := 0) (x := .int x) (by rw [List.getElem?_map, hx]; rfl)
  rw [u_pIxL]
  show (atI _ ((0 : Nat) : Int)).map _ = _
  rw [hat]
  rfl
end
end K52
set_option Elab.async false
set_option linter.all false
set_option maxRecDepth 100000
set_option maxHeartbeats 1000000
/-! _law_take. -/
namespace K52
open PySem PySem.Spec L2 Sm
theorem mod_b {x m : Int} {b : Nat} (hm : 0 < m) (hb : m ≤ 2 ^ b) : (x % m).natAbs < 2 ^ b := by
  have h1 := Int.emod_nonneg x (show m ≠ 0 by omega)
  have h2 := Int.emod_lt_of_pos x hm
  have h3 : ((2 ^ b : Nat) : Int) = 2 ^ b := by simp
  omega
theorem nat_b {x : Int} {b : Nat} (h0 : 0 ≤ x) (h : x < 2 ^ b) : x.natAbs < 2 ^ b := by
  have h3 : ((2 ^ b : Nat) : Int) = 2 ^ b := by simp
  omega
section
variable {b0 b1 b2 : Int} {cells : Row} {k : Int} {s2 s3 s4 s5 s6 : Sl}
theorem put0 {v : Int} : gIx 0 (eC (.int 0)) (.int v) (te b0 b1 b2 cells k s2 s3 s4 s5 s6) = some (te v b1 b2 cells k s2 s3 s4 s5 s6) := rfl
theorem put1 {v : Int} : gIx 0 (eC (.int 1)) (.int v) (te b0 b1 b2 cells k s2 s3 s4 s5 s6) = some (te b0 v b2 cells k s2 s3 s4 s5 s6) := rfl
theorem aug2 : xAugIx 0 (eC (.int 2)) (fun i j => i + j) (eC (.int 1)) (te b0 b1 b2 cells k s2 s3 s4 s5 s6) = some (.nx, te b0 b1 (b2 + 1) cells k s2 s3 s4 s5 s6) := rfl
theorem int_ok {f : Ev} {env e1 : Env'} {v : Int} (h : f env = some (.val (.int v), e1)) : eCb pInt (aCons f aNil) env = some (.val (.int v), e1) := eCb_ok (aCons_ok h u_aNil) rfl u_pInt1
/-- the first half: a new cell, when the bag has none -/
theorem take_A {c : Nat} (h0 : 0 ≤ b0) (h1 : 0 ≤ b1) (h1' : b1 < 2147483647) (h2 : 0 ≤ b2) (h2' : b2 ≤ c) (hc : c < 2 ^ 64) (hl : cells.length ≤ 63) (hn : ∀ x ∈ cells, 0 ≤ x) :
    ∃ (b0' b1' b2' : Int) (t2 t3 : Sl), 0 ≤ b0' ∧ 0 ≤ b1' ∧ b1' < 2147483647 ∧ 0 ≤ b2' ∧ b2' ≤ c + 1 ∧ xIf (bE (eOp pEq (eOp pIx (eVar 0) (eC (.int 0))) (eC (.int 0)))) (xSeq (xSet 2 (eOp pIx (eOp pAdd (eSl (eOp pIx (eVar 0) (eC (.int 3))) (oSome (eOp pIx (eVar 0) (eC (.int 2)))) oNone) (eLst (aCons (eC (.int 0)) aNil))) (eC (.int 0))))
    (xSeq (xAugIx 0 (eC (.int 2)) (fun i j => i + j) (eC (.int 1)))
    (xSeq (xIf (bE (eOp pGe (eVar 2) (eOp pPow (eC (.int 10)) (eC (.int 18))))) (xAsg (gIx 0 (eC (.int 0))) (eVar 2)) xNx)
    (xSeq (xSet 3 (eOp pAdd (eOp pAdd (eOp pMul (eOp pIx (eVar 0) (eC (.int 1))) (eC (.int 48271))) (eOp pMod (eCb pInt (aCons (eVar 2) aNil)) (eC (.int 2147483647)))) (eOp pMul (eC (.int 7919)) (eOp pIx (eVar 0) (eC (.int 2))))))
    (xAsg (gIx 0 (eC (.int 1))) (eOp pMod (eCb pInt (aCons (eVar 3) aNil)) (eC (.int 2147483647)))))))) xNx (te b0 b1 b2 cells k .no .no .no .no .no) = some (.nx, te b0' b1' b2' cells k t2 t3 .no .no .no) := by
  have hb : bE (eOp pEq (eOp pIx (eVar 0) (eC (.int 0))) (eC (.int 0))) (te b0 b1 b2 cells k .no .no .no .no .no) = some (decide (b0 = 0), te b0 b1 b2 cells k .no .no .no .no .no) := by
    rw [u_bE, eOp_ok it0 (u_eC _) rfl rfl pEq_int]
    rfl
  by_cases hz : b0 = 0
  · rw [decide_eq_true hz] at hb
    obtain ⟨x, hx0, hx⟩ := cell_ok (b0 := b0) (b1 := b1) (b2 := b2) (k := k) (s2 := .no) (s3 := .no) (s4 := .no) (s5 := .no) (s6 := .no) hl hn
    have a1 : xSet 2 (eOp pIx (eOp pAdd (eSl (eOp pIx (eVar 0) (eC (.int 3))) (oSome (eOp pIx (eVar 0) (eC (.int 2)))) oNone) (eLst (aCons (eC (.int 0)) aNil))) (eC (.int 0))) (te b0 b1 b2 cells k .no .no .no .no .no) = some (.nx, te b0 b1 b2 cells k (.val (.int x)) .no .no .no .no) := xSet_ok hx rfl (by simp)
    have a3 : ∃ b0', 0 ≤ b0' ∧ xIf (bE (eOp pGe (eVar 2) (eOp pPow (eC (.int 10)) (eC (.int 18))))) (xAsg (gIx 0 (eC (.int 0))) (eVar 2)) xNx (te b0 b1 (b2 + 1) cells k (.val (.int x)) .no .no .no .no) = some (.nx, te b0' b1 (b2 + 1) cells k (.val (.int x)) .no .no .no .no) := by
      have hp : eOp pPow (eC (.int 10)) (eC (.int 18)) (te b0 b1 (b2 + 1) cells k (.val (.int x)) .no .no .no .no) = some (.val (.int (10 ^ 18)), te b0 b1 (b2 + 1) cells k (.val (.int x)) .no .no .no .no) := eOp_ok (u_eC _) (u_eC _) rfl rfl (by rw [u_pPow, if_pos (by decide)]; rfl)
      have hg : bE (eOp pGe (eVar 2) (eOp pPow (eC (.int 10)) (eC (.int 18)))) (te b0 b1 (b2 + 1) cells k (.val (.int x)) .no .no .no .no) = some (decide (10 ^ 18 ≤ x), te b0 b1 (b2 + 1) cells k (.val (.int x)) .no .no .no .no) := by
        rw [u_bE, eOp_ok (ra := .val (.int x)) (e1 := te b0 b1 (b2 + 1) cells k (.val (.int x)) .no .no .no .no) rfl hp rfl rfl u_pCmpI]
        rfl
      by_cases hge : 10 ^ 18 ≤ x
      · rw [decide_eq_true hge] at hg
        exact ⟨x, hx0, xIf_t hg (xAsg_ok (r := .val (.int x)) (e1 := te b0 b1 (b2 + 1) cells k (.val (.int x)) .no .no .no .no) rfl rfl put0)⟩
      · rw [decide_eq_false hge] at hg
        exact ⟨b0, h0, xIf_f hg rfl⟩
    obtain ⟨b0', hb0', a3⟩ := a3
    let e2 : Env' := te b0' b1 (b2 + 1) cells k (.val (.int x)) .no .no .no .no
    have m1 : CMulG b1 48271 := mulG (a := 31) (b := 16) (nat_b h1 (by omega)) (by decide) (by decide)
    have m2 : CMulG 7919 (b2 + 1) := mulG (a := 13) (b := 65) (by decide) (nat_b (by omega) (by omega)) (by decide)
    have t1 : eOp pMul (eOp pIx (eVar 0) (eC (.int 1))) (eC (.int 48271)) e2 = some (.val (.int (b1 * 48271)), e2) := eOp_ok it1 (u_eC _) rfl rfl (by rw [u_pMul, if_pos m1])
    have t2 : eOp pMod (eCb pInt (aCons (eVar 2) aNil)) (eC (.int 2147483647)) e2 = some (.val (.int (x % 2147483647)), e2) := eOp_ok (int_ok (show eVar 2 e2 = some (.val (.int x), e2) from rfl)) (u_eC _) rfl rfl (by rw [u_pMod, if_pos (by decide)])
    have t3 : eOp pMul (eC (.int 7919)) (eOp pIx (eVar 0) (eC (.int 2))) e2 = some (.val (.int (7919 * (b2 + 1))), e2) := eOp_ok (u_eC _) it2 rfl rfl (by rw [u_pMul, if_pos m2])
    have t4 := eOp_ok (p := pAdd) t1 t2 rfl rfl u_pAdd1
    have t5 := eOp_ok (p := pAdd) t4 t3 rfl rfl u_pAdd1
    have a4 : xSet 3 (eOp pAdd (eOp pAdd (eOp pMul (eOp pIx (eVar 0) (eC (.int 1))) (eC (.int 48271))) (eOp pMod (eCb pInt (aCons (eVar 2) aNil)) (eC (.int 2147483647)))) (eOp pMul (eC (.int 7919)) (eOp pIx (eVar 0) (eC (.int 2))))) e2 = some (.nx, te b0' b1 (b2 + 1) cells k (.val (.int x)) (.val (.int (b1 * 48271 + x % 2147483647 + 7919 * (b2 + 1)))) .no .no .no) := xSet_ok t5 rfl (by simp [e2])
    have t6 := eOp_ok (p := pMod) (g := eC (.int 2147483647)) (int_ok (f := eVar 3) (env := te b0' b1 (b2 + 1) cells k (.val (.int x)) (.val (.int (b1 * 48271 + x % 2147483647 + 7919 * (b2 + 1)))) .no .no .no) rfl) (u_eC _) rfl rfl (by rw [u_pMod, if_pos (by decide)])
    have a5 := xAsg_ok t6 rfl put1
    refine ⟨b0', _, b2 + 1, _, _, hb0', ?_, ?_, by omega, by omega, xIf_t hb (xSeq_nx a1 (xSeq_nx aug2 (xSeq_nx a3 (xSeq_nx a4 a5))))⟩
    · exact Int.emod_nonneg _ (by decide)
    · exact Int.emod_lt_of_pos _ (by decide)
  · rw [decide_eq_false hz] at hb
    exact ⟨b0, b1, b2, .no, .no, h0, h1, h1', h2, by omega, xIf_f hb rfl⟩
/-- the second half, from a bag that has something -/
theorem g_take_eq {c : Nat} {d : D} (hd : BagOk c d) (hc : c < 2 ^ 64) (hk : 0 < k) : ∃ v d', 0 ≤ v ∧ v < k ∧ BagOk (c + 1) d' ∧ g__law_take d [.int k] = some (.int v, d') := by
  obtain ⟨⟨b0, b1, b2, cells, rfl, h0, h1, h1', h2, h2', hl, hn⟩⟩ := hd
  obtain ⟨a0, a1, a2, t2, t3, p0, p1, p1', p2, p2', hA⟩ := take_A (k := k) h0 h1 h1' h2 h2' hc hl hn
  have hb : bE (eOp pGt (eOp pIx (eVar 0) (eC (.int 0))) (eC (.int 0))) (te a0 a1 a2 cells k t2 t3 .no .no .no) = some (decide (0 < a0), te a0 a1 a2 cells k t2 t3 .no .no .no) := by
    rw [u_bE, eOp_ok it0 (u_eC _) rfl rfl u_pCmpI]
    rfl
  by_cases hp : 0 < a0
  · rw [decide_eq_true hp] at hb
    have v1 := eOp_ok (p := pMod) (g := eVar 1) (int_ok (it0 (b0 := a0) (b1 := a1) (b2 := a2) (cells := cells) (k := k) (s2 := t2) (s3 := t3) (s4 := .no) (s5 := .no) (s6 := .no))) (show eVar 1 (te a0 a1 a2 cells k t2 t3 .no .no .no) = some (.val (.int k), te a0 a1 a2 cells k t2 t3 .no .no .no) from rfl) rfl rfl (by rw [u_pMod, if_pos hk])
    have s1 : xSet 4 (eOp pMod (eCb pInt (aCons (eOp pIx (eVar 0) (eC (.int 0))) aNil)) (eVar 1)) (te a0 a1 a2 cells k t2 t3 .no .no .no) = some (.nx, te a0 a1 a2 cells k t2 t3 (.val (.int (a0 % k))) .no .no) := xSet_ok v1 rfl (by simp)
    have v2 := eOp_ok (p := pFdiv) (g := eVar 1) (int_ok (it0 (b0 := a0) (b1 := a1) (b2 := a2) (cells := cells) (k := k) (s2 := t2) (s3 := t3) (s4 := .val (.int (a0 % k))) (s5 := .no) (s6 := .no))) (show eVar 1 (te a0 a1 a2 cells k t2 t3 (.val (.int (a0 % k))) .no .no) = some (.val (.int k), te a0 a1 a2 cells k t2 t3 (.val (.int (a0 % k))) .no .no) from rfl) rfl rfl (by rw [u_pFdiv, if_pos hk])
    have s2 := xAsg_ok v2 rfl put0
    have s3 : xRet (eVar 4) (te (a0 / k) a1 a2 cells k t2 t3 (.val (.int (a0 % k))) .no .no) = some (.ret (.int (a0 % k)), te (a0 / k) a1 a2 cells k t2 t3 (.val (.int (a0 % k))) .no .no) := rfl
    have hF : F__law_take (te b0 b1 b2 cells k .no .no .no .no .no) = some (.ret (.int (a0 % k)), te (a0 / k) a1 a2 cells k t2 t3 (.val (.int (a0 % k))) .no .no) := by
      unfold F__law_take
      exact xSeq_nx hA (xSeq_ret (xIf_t hb (xSeq_nx s1 (xSeq_nx s2 s3))))
    exact ⟨a0 % k, bagD (a0 / k) a1 a2 cells, Int.emod_nonneg _ (by omega), Int.emod_lt_of_pos _ hk, ⟨_, _, _, _, rfl, Int.ediv_nonneg p0 (Int.le_of_lt hk), p1, p1', p2, by omega, hl, hn⟩, runM_ok rfl hF rfl⟩
  · rw [decide_eq_false hp] at hb
    have s0 := xIf_f (F := xSeq (xSet 4 (eOp pMod (eCb pInt (aCons (eOp pIx (eVar 0) (eC (.int 0))) aNil)) (eVar 1))) (xSeq (xAsg (gIx 0 (eC (.int 0))) (eOp pFdiv (eCb pInt (aCons (eOp pIx (eVar 0) (eC (.int 0))) aNil)) (eVar 1))) (xRet (eVar 4)))) (G := xNx) hb u_xNx
    have m1 : CMulG (a1 + 1) 39373 := mulG (a := 32) (b := 16) (nat_b (by omega) (by omega)) (by decide) (by decide)
    let e4 : Env' := te a0 a1 a2 cells k t2 t3 .no .no .no
    have w1 : eOp pAdd (eOp pIx (eVar 0) (eC (.int 1))) (eC (.int 1)) e4 = some (.val (.int (a1 + 1)), e4) := eOp_ok it1 (u_eC _) rfl rfl u_pAdd1
    have w2 : eOp pMul (eOp pAdd (eOp pIx (eVar 0) (eC (.int 1))) (eC (.int 1))) (eC (.int 39373)) e4 = some (.val (.int ((a1 + 1) * 39373)), e4) := eOp_ok w1 (u_eC _) rfl rfl (by rw [u_pMul, if_pos m1])
    have w3 := eOp_ok (p := pMod) (g := eC (.int 1000000007)) (int_ok w2) (u_eC _) rfl rfl (by rw [u_pMod, if_pos (by decide)])
    obtain ⟨bg, hbg⟩ : ∃ bg, bg = (a1 + 1) * 39373 % 1000000007 := ⟨_, rfl⟩
    rw [← hbg] at w3
    have s1 : xSet 5 (eOp pMod (eCb pInt (aCons (eOp pMul (eOp pAdd (eOp pIx (eVar 0) (eC (.int 1))) (eC (.int 1))) (eC (.int 39373))) aNil)) (eC (.int 1000000007))) e4 = some (.nx, te a0 a1 a2 cells k t2 t3 .no (.val (.int bg)) .no) := xSet_ok w3 rfl (by simp [e4])
    have bgb : bg.natAbs < 2 ^ 30 := by
      rw [hbg]
      exact mod_b (by decide) (by decide)
    have m2 : CMulG bg bg := mulG bgb bgb (by decide)
    let e5 : Env' := te a0 a1 a2 cells k t2 t3 .no (.val (.int bg)) .no
    have v5 : eVar 5 e5 = some (.val (.int bg), e5) := rfl
    have w4 : eOp pMul (eVar 5) (eVar 5) e5 = some (.val (.int (bg * bg)), e5) := eOp_ok v5 v5 rfl rfl (by rw [u_pMul, if_pos m2])
    have w5 := eOp_ok (p := pMod) (g := eC (.int 998244353)) (int_ok w4) (u_eC _) rfl rfl (by rw [u_pMod, if_pos (by decide)])
    obtain ⟨q, hq⟩ : ∃ q, q = bg * bg % 998244353 := ⟨_, rfl⟩
    rw [← hq] at w5
    have m3 : CMulG q 30011 := mulG (a := 30) (b := 15) (by rw [hq]; exact mod_b (by decide) (by decide)) (by decide) (by decide)
    have w6 := eOp_ok (p := pMul) (g := eC (.int 30011)) w5 (u_eC _) rfl rfl (by rw [u_pMul, if_pos m3])
    have w7 := eOp_ok (p := pMod) (g := eC (.int 998244353)) (int_ok w6) (u_eC _) rfl rfl (by rw [u_pMod, if_pos (by decide)])
    obtain ⟨sc, hsc⟩ : ∃ sc, sc = q * 30011 % 998244353 := ⟨_, rfl⟩
    rw [← hsc] at w7
    let e6 : Env' := te a0 a1 a2 cells k t2 t3 .no (.val (.int bg)) (.val (.int sc))
    have s2 := xSet_ok (i := 6) w7 rfl (by simp [e5])
    have w8 : eOp pFdiv (eVar 6) (eC (.int 7)) e6 = some (.val (.int (sc / 7)), e6) := eOp_ok (show eVar 6 e6 = some (.val (.int sc), e6) from rfl) (u_eC _) rfl rfl (by rw [u_pFdiv, if_pos (by decide)])
    have w9 := eOp_ok (p := pMod) (g := eVar 1) (int_ok w8) (show eVar 1 e6 = some (.val (.int k), e6) from rfl) rfl rfl (by rw [u_pMod, if_pos hk])
    have s3 := xRet_ok w9 rfl
    have hF : F__law_take (te b0 b1 b2 cells k .no .no .no .no .no) = some (.ret (.int (sc / 7 % k)), e6) := by
      unfold F__law_take
      exact xSeq_nx hA (xSeq_nx s0 (xSeq_nx s1 (xSeq_nx s2 s3)))
    exact ⟨sc / 7 % k, bagD a0 a1 a2 cells, Int.emod_nonneg _ (by omega), Int.emod_lt_of_pos _ hk, ⟨_, _, _, _, rfl, p0, p1, p1', p2, by omega, hl, hn⟩, runM_ok rfl hF rfl⟩
end
end K52
set_option Elab.async false
set_option linter.all false
set_option maxRecDepth 100000
set_option maxHeartbeats 1000000
/-! _law_some, _law_number. -/
namespace K52
open PySem PySem.Spec L2 Sm
/-- a take, as an expression -/
theorem take_ok {env : Env'} {c : Nat} {d : D} {p : Bool} {f : Ev} {k : Int} (h0 : env[0]? = some (.own p d)) (hd : BagOk c d) (hc : c < 2 ^ 64) (hk : 0 < k) (hf : f env = some (.val (.int k), env)) :
    ∃ v d', 0 ≤ v ∧ v < k ∧ BagOk (c + 1) d' ∧ eCallM g__law_take (aCons (eVar 0) (aCons f aNil)) env = some (.val (.int v), env.set 0 (.own p d')) := by
  obtain ⟨v, d', h1, h2, h3, h4⟩ := g_take_eq hd hc hk
  refine ⟨v, d', h1, h2, h3, eCallM_ok (e1 := env) (e2 := env) (i := 0) (rs := [.val (.int k)]) (ds := [.int k]) ?_ rfl h0 h4⟩
  exact aCons_ok (r := .var 0) (e1 := env) (by simp [h0]) (aCons_ok hf u_aNil)
theorem g_some_eq {c : Nat} {d : D} {ds : List D} (hd : BagOk c d) (hc : c < 2 ^ 64) (hn : ds ≠ []) : ∃ x d', x ∈ ds ∧ BagOk (c + 1) d' ∧ g__law_some d [.list ds] = some (x, d') := by
  have hl : 0 < ds.length := List.length_pos_iff.mpr hn
  obtain ⟨v, d', h1, h2, h3, h4⟩ := take_ok (env := [.own true d, .val (.list ds)]) (p := true) (f := eCb pLen (aCons (eVar 1) aNil)) (k := (ds.length : Nat)) rfl hd hc (by omega) (by simp)
  obtain ⟨j, hj⟩ : ∃ j : Nat, v = j := ⟨v.toNat, by omega⟩
  subst hj
  have hjl : j < ds.length := by omega
  have hF : F__law_some [.own true d, .val (.list ds)] = some (.ret ds[j], [.own true d', .val (.list ds)]) := by
    unfold F__law_some
    refine xRet_ok (r := .val ds[j]) (e1 := [.own true d', .val (.list ds)]) (eOp_ok (ra := .val (.list ds)) (e1 := [.own true d, .val (.list ds)]) rfl h4 rfl rfl ?_) rfl
    rw [u_pIxL, atI_get (List.getElem?_eq_getElem hjl)]
    rfl
  exact ⟨ds[j], d', List.getElem_mem hjl, h3, runM_ok rfl hF rfl⟩
/-- a choice, as an expression -/
theorem some_ok {env e1 : Env'} {c : Nat} {d d1 : D} {p : Bool} {f : Ev} {ds : List D} (h0 : env[0]? = some (.own p d)) (hf : f env = some (.fr (.list ds), e1)) (h1 : e1[0]? = some (.own p d1)) (hd : BagOk c d1) (hc : c < 2 ^ 64) (hn : ds ≠ []) :
    ∃ x d', x ∈ ds ∧ BagOk (c + 1) d' ∧ eCallM g__law_some (aCons (eVar 0) (aCons f aNil)) env = some (.val x, e1.set 0 (.own p d')) := by
  obtain ⟨x, d', h2, h3, h4⟩ := g_some_eq hd hc hn
  exact ⟨x, d', h2, h3, eCallM_ok (e1 := e1) (e2 := e1) (i := 0) (rs := [.val (.list ds)]) (ds := [.list ds]) (aCons_ok (r := .var 0) (e1 := env) (by simp [h0]) (aCons_ok hf u_aNil)) rfl h1 h4⟩
theorem BagOk.mono {c c' : Nat} {d : D} (h : BagOk c d) (hc : c ≤ c') : BagOk c' d := by
  obtain ⟨⟨b0, b1, b2, cells, e, h0, h1, h1', h2, h2', hl, hn⟩⟩ := h
  exact ⟨⟨b0, b1, b2, cells, e, h0, h1, h1', h2, by omega, hl, hn⟩⟩
theorem g_number_eq {c : Nat} {d : D} (hd : BagOk c d) (hc : c + 2 < 2 ^ 64) : ∃ (x : Int) (d' : D), x.natAbs ≤ 10 ^ 18 ∧ BagOk (c + 3) d' ∧ g__law_number d [] = some (.int x, d') := by
  have hp : eOp pPow (eC (.int 10)) (eC (.int 18)) [.own true d, .no] = some (.val (.int (10 ^ 18)), [.own true d, .no]) := eOp_ok (u_eC _) (u_eC _) rfl rfl (by rw [u_pPow, if_pos (by decide)]; rfl)
  obtain ⟨v, d1, h1, h2, h3, h4⟩ := take_ok (env := [.own true d, .no]) (p := true) (k := 10 ^ 18) rfl hd (by omega) (by decide) hp
  have s1 : xSet 1 (eCallM g__law_take (aCons (eVar 0) (aCons (eOp pPow (eC (.int 10)) (eC (.int 18))) aNil))) [.own true d, .no] = some (.nx, [.own true d1, .val (.int v)]) := xSet_ok h4 rfl (by simp)
  obtain ⟨u, d2, g1, g2, g3, g4⟩ := take_ok (env := [.own true d1, .val (.int v)]) (p := true) (f := eC (.int 30)) (k := 30) rfl h3 (by omega) (by decide) rfl
  have t1 : eOp pSub (eCallM g__law_take (aCons (eVar 0) (aCons (eC (.int 30)) aNil))) (eC (.int 15)) [.own true d1, .val (.int v)] = some (.val (.int (u - 15)), [.own true d2, .val (.int v)]) := eOp_ok g4 (u_eC _) rfl rfl u_pSub
  have lst : eLst (aCons (eC (.int 0)) (aCons (eC (.int 0)) (aCons (eC (.int 1)) (aCons (eUn pNeg (eC (.int 1))) (aCons (eC (.int 2)) (aCons (eUn pNeg (eC (.int 3))) (aCons (eC (.int 5)) (aCons (eC (.int 12)) (aCons (eOp pSub (eCallM g__law_take (aCons (eVar 0) (aCons (eC (.int 30)) aNil))) (eC (.int 15))) (aCons (eVar 1) (aCons (eUn pNeg (eVar 1)) aNil))))))))))) [.own true d1, .val (.int v)] =
      some (.fr (.list ([0, 0, 1, -1, 2, -3, 5, 12, u - 15, v, -v].map PyData.int)), [.own true d2, .val (.int v)]) := by
    have tail : aCons (eOp pSub (eCallM g__law_take (aCons (eVar 0) (aCons (eC (.int 30)) aNil))) (eC (.int 15))) (aCons (eVar 1) (aCons (eUn pNeg (eVar 1)) aNil)) [.own true d1, .val (.int v)] = some ([.val (.int (u - 15)), .val (.int v), .val (.int (-v))], [.own true d2, .val (.int v)]) := aCons_ok t1 rfl
    have all := aCons_ok (f := eC (.int 0)) (env := [.own true d1, .val (.int v)]) (u_eC _) (aCons_ok (f := eC (.int 0)) (u_eC _) (aCons_ok (f := eC (.int 1)) (u_eC _) (aCons_ok (f := eUn pNeg (eC (.int 1))) (r := .val (.int (-1))) rfl (aCons_ok (f := eC (.int 2)) (u_eC _) (aCons_ok (f := eUn pNeg (eC (.int 3))) (r := .val (.int (-3))) rfl (aCons_ok (f := eC (.int 5)) (u_eC _) (aCons_ok (f := eC (.int 12)) (u_eC _) tail)))))))
    rw [u_eLst, all]
    rfl
  obtain ⟨x, d3, k1, k2, k3⟩ := some_ok (env := [.own true d1, .val (.int v)]) (p := true) rfl lst rfl g3 (by omega) (by simp)
  obtain ⟨y, hy, rfl⟩ := List.mem_map.mp k1
  refine ⟨y, d3, ?_, k2, ?_⟩
  · simp only [List.mem_cons, List.not_mem_nil, or_false] at hy
    have e18 : (10 : Int) ^ 18 = 1000000000000000000 := by decide
    have e18' : (10 : Nat) ^ 18 = 1000000000000000000 := by decide
    rw [e18] at h2
    rw [e18']
    rcases hy with rfl | rfl | rfl | rfl | rfl | rfl | rfl | rfl | rfl | rfl | rfl <;> omega
  · have hF : F__law_number [.own true d, .no] = some (.ret (.int y), [.own true d3, .val (.int v)]) := by
      unfold F__law_number
      exact xSeq_nx s1 (xRet_ok k3 rfl)
    exact runM_ok rfl hF rfl
end K52
set_option Elab.async false
set_option linter.all false
set_option maxRecDepth 100000
set_option maxHeartbeats 1000000
/-! _law_bag. -/
namespace K52
open PySem PySem.Spec L2 Sm
theorem runS_ok {n : Nat} {F : Ex} {ns : List Int} {r : D} {e : Env'} (h : F (Sl.scr ns :: List.replicate (n - 1) Sl.no) = some (.ret r, e)) : runS n F ns = some r := by
  unfold runS
  rw [h]
  rfl
theorem g_bag_eq (ns : List Int) : ∃ d, BagOk 0 d ∧ g__law_bag ns = some d := by
  let cells : Row := (ns.take 63).map fun x => if x < 0 then -x else x
  have l1 : lSeq (eScr 0 (oSome (eC (.int 63)))) [.scr ns, .no] = some ((ns.take 63).map PyData.int, [.scr ns, .no]) := by
    refine lSeq_ok (r := .fr (.list ((ns.take 63).map PyData.int))) (e1 := [.scr ns, .no]) (d := .list ((ns.take 63).map PyData.int)) ?_ rfl rfl
    have h := cut_take ns 63
    show some (R.fr (.list ((cutG ns none (some ((63 : Nat) : Int))).map PyData.int)), _) = _
    rw [h]
  have k1 : lcF (gN 1) bYes (eCb pAbs (aCons (eVar 1) aNil)) [1] ((ns.take 63).map PyData.int) [.scr ns, .no] = some ((ns.take 63).map fun x => PyData.int (if x < 0 then -x else x), [.scr ns, .no]) := by
    refine lcF_map _ _ _ fun x hx => ?_
    exact ⟨[.scr ns, .val (.int x)], _, .val (.int (if x < 0 then -x else x)), [.scr ns, .val (.int x)], _, rfl, rfl, eCb_ok (aCons_ok (show eVar 1 [.scr ns, .val (.int x)] = some (.val (.int x), _) from rfl) u_aNil) rfl u_pAbs, rfl, rfl⟩
  have c1 := eLc_ok l1 rfl k1 (by rw [List.length_map, List.length_take]; omega)
  have e : ((ns.take 63).map fun x => PyData.int (if x < 0 then -x else x)) = cells.map PyData.int := by
    show _ = List.map PyData.int (List.map _ _)
    rw [List.map_map]
    rfl
  rw [e] at c1
  have lst : eLst (aCons (eC (.int 0)) (aCons (eC (.int 1234567891)) (aCons (eC (.int 0)) (aCons (eLc [1] (lSeq (eScr 0 (oSome (eC (.int 63))))) (gN 1) bYes (eCb pAbs (aCons (eVar 1) aNil))) aNil)))) [.scr ns, .no] = some (.fr (bagD 0 1234567891 0 cells), [.scr ns, .no]) := by
    rw [u_eLst, aCons_ok (u_eC _) (aCons_ok (u_eC _) (aCons_ok (u_eC _) (aCons_ok c1 u_aNil)))]
    rfl
  have hg : g__law_bag ns = some (bagD 0 1234567891 0 cells) := by
    have hF : F__law_bag [.scr ns, .no] = some (.fr (bagD 0 1234567891 0 cells), [.scr ns, .no]) := lst
    show (match F__law_bag [.scr ns, .no] with
      | some (.fr d, _) => some d
      | _ => none) = _
    rw [hF]
  refine ⟨_, ⟨⟨0, 1234567891, 0, cells, rfl, by decide, by decide, by decide, by decide, by decide, ?_, fun x hx => ?_⟩⟩, hg⟩
  · show (List.map _ _).length ≤ 63
    rw [List.length_map, List.length_take]
    omega
  · obtain ⟨y, _, rfl⟩ := List.mem_map.mp hx
    split <;> omega
end K52
set_option Elab.async false
set_option linter.all false
set_option maxRecDepth 100000
set_option maxHeartbeats 1000000
/-! _law_made: it answers whether the row is in the form's lattice. -/
namespace K52
open PySem PySem.Spec L2 Sm
/-- the row that is left, or none -/
def madeR : Mat → List Nat → Row → Option Row
  | f :: F, h :: hs, v => if v.getD h 0 % f.getD h 0 = 0 then madeR F hs (sumP v f (-(v.getD h 0 / f.getD h 0))) else none
  | _, _, v => some v
theorem vec_sum {a b : Row} {t : Int} (hl : a.length = b.length) : vec (sumP a b t) = fun j => vec a j + t * vec b j := by
  have e : sumP a b t = minusP a b (-t) := by
    unfold sumP minusP
    apply List.map_congr_left
    intro p _
    grind
  rw [e, vec_minus hl]
  funext j
  grind
theorem sum_len {a b : Row} {t : Int} (hl : a.length = b.length) : (sumP a b t).length = a.length := by
  unfold sumP
  rw [List.length_map, List.length_zip]
  omega
theorem madeR_iff {n : Nat} : ∀ {F : Mat} {hs : List Nat} {v : Row}, Ech (F.map vec) hs → Wd n F → v.length = n → (LatL (F.map vec) (vec v) ↔ ∃ w, madeR F hs v = some w ∧ vec w = fun _ => 0)
  | [], [], v, _, _, _ => ⟨fun h => ⟨v, rfl, lat_nil h⟩, fun ⟨w, h1, h2⟩ => by
    cases h1
    rw [h2]
    exact .zero⟩
  | f :: F, h :: hs, v, e, hw, hv => by
    have fl : f.length = n := hw f List.mem_cons_self
    have hw' : Wd n F := fun r hr => hw r (List.mem_cons_of_mem _ hr)
    have fp : 0 < vec f h := e.2.1
    have fe : f.getD h 0 = vec f h := rfl
    have ve : v.getD h 0 = vec v h := rfl
    unfold madeR
    rw [fe, ve]
    have sl : (sumP v f (-(vec v h / vec f h))).length = n := by rw [sum_len (by omega)]; exact hv
    have sv := vec_sum (a := v) (b := f) (t := -(vec v h / vec f h)) (by omega)
    constructor
    · intro hl
      obtain ⟨c, w, hw2, ew⟩ := lat_cons hl
      have wz : w h = 0 := hw2.zero_at fun u hu => e.2.2.1 u hu h (Nat.le_refl _)
      have e1 : vec v h = c * vec f h := by
        have := congrFun ew h
        simp only [wz] at this
        omega
      have e2 : vec v h / vec f h = c := by rw [e1]; exact Int.mul_ediv_cancel c (by omega)
      rw [if_pos (by rw [e1]; exact Int.mul_emod_left c (vec f h))]
      refine (madeR_iff e.2.2.2 hw' sl).mp ?_
      have e3 : vec (sumP v f (-(vec v h / vec f h))) = w := by
        rw [sv, e2, ew]
        funext j
        grind
      rw [e3]
      exact hw2
    · rintro ⟨w, h1, h2⟩
      split at h1
      · rename_i hz
        have ih := (madeR_iff e.2.2.2 hw' sl).mpr ⟨w, h1, h2⟩
        rw [sv] at ih
        have := lat_of_cons (f := vec f) (vec v h / vec f h) ih
        have e3 : (fun j => vec v h / vec f h * vec f j + (vec v j + -(vec v h / vec f h) * vec f j)) = vec v := by
          funext j
          grind
        rw [e3] at this
        exact this
      · cases h1
  | [], _ :: _, _, e, _, _ => e.elim
  | _ :: _, [], _, e, _, _ => e.elim
theorem vec_zero {w : Row} : vec w = (fun _ => 0) ↔ ∀ x ∈ w, x = 0 := by
  constructor
  · intro h x hx
    obtain ⟨i, hi⟩ := List.getElem?_of_mem hx
    have := congrFun h i
    unfold vec at this
    rw [List.getD_eq_getElem?_getD, hi] at this
    exact this
  · intro h
    funext j
    unfold vec
    rw [List.getD_eq_getElem?_getD]
    cases hj : w[j]? with
    | none => rfl
    | some x => exact h x (List.mem_of_getElem? hj)
theorem ixT_ok {env : Env'} {s k h : Nat} {r : Row} {x : Int} (h0 : env[s]? = some (.val (rowT r))) (hk : env[k]? = some (.val (.int (h : Nat)))) (hx : r[h]? = some x) : eOp pIx (eVar s) (eVar k) env = some (.val (.int x), env) := by
  refine eOp_ok (e1 := env) (ra := .val (rowT r)) (rb := .val (.int (h : Nat))) (x := rowT r) (y := .int (h : Nat)) (by simp [h0]) (by simp [hk]) rfl rfl ?_
  unfold rowT
  rw [u_pIxT, atI_get (x := .int x) (by rw [List.getElem?_map, hx]; rfl)]
  rfl
noncomputable abbrev madeB : Ex := xSeq (xIf (bE (eOp pNe (eOp pMod (eCb pInt (aCons (eOp pIx (eVar 2) (eVar 4)) aNil)) (eOp pIx (eVar 3) (eVar 4))) (eC (.int 0)))) (xRet (eC (.bool false))) xNx)
    (xSet 2 (eCall g__law_sum (aCons (eVar 2) (aCons (eVar 3) (aCons (eUn pNeg (eOp pFdiv (eOp pIx (eVar 2) (eVar 4)) (eOp pIx (eVar 3) (eVar 4)))) aNil)))))
theorem made_loop {fd hd : D} {n M b : Nat} (hn : n ≤ 1000000) (hM : M < 2 ^ b) (hbb : b + b < 134000000) : ∀ (F : Mat) (hs : List Nat) (v : Row) (X : Nat) (s3 s4 : Sl), F.length = hs.length → Wd n F → v.length = n → (∀ h ∈ hs, h < n) → (∀ p ∈ F.zip hs, 0 < p.1.getD p.2 0) → (∀ f ∈ F, ∀ x ∈ f, x.natAbs ≤ M) → (∀ x ∈ v, x.natAbs ≤ X) → X * (1 + M) ^ F.length < 2 ^ b →
    ∃ s3' s4', (∃ w, madeR F hs v = some w ∧ w.length = n ∧ forF (gT 2 (gCons (gN 3) (gCons (gN 4) gNil))) madeB ((F.zip hs).map fun p => PyData.tuple [rowT p.1, .int (p.2 : Nat)]) [.val fd, .val hd, .val (rowT v), s3, s4, .no] = some (.nx, [.val fd, .val hd, .val (rowT w), s3', s4', .no])) ∨
      (madeR F hs v = none ∧ ∃ e, forF (gT 2 (gCons (gN 3) (gCons (gN 4) gNil))) madeB ((F.zip hs).map fun p => PyData.tuple [rowT p.1, .int (p.2 : Nat)]) [.val fd, .val hd, .val (rowT v), s3, s4, .no] = some (.ret (.bool false), e))
  | [], [], v, X, s3, s4, _, _, hv, _, _, _, _, _ => ⟨s3, s4, .inl ⟨v, rfl, hv, rfl⟩⟩
  | f :: F, h :: hs, v, X, s3, s4, hl, hw, hv, hlt, hp, hf, hx, hX => by
    have fl : f.length = n := hw f List.mem_cons_self
    have hh := hlt h List.mem_cons_self
    have fp := hp (f, h) List.mem_cons_self
    simp only at fp
    have gv : v[h]? = some (v.getD h 0) := by
      rw [List.getD_eq_getElem?_getD, List.getElem?_eq_getElem (by omega)]
      rfl
    have gf : f[h]? = some (f.getD h 0) := by
      rw [List.getD_eq_getElem?_getD, List.getElem?_eq_getElem (by omega)]
      rfl
    let e1 : Env' := [.val fd, .val hd, .val (rowT v), .val (rowT f), .val (.int (h : Nat)), .no]
    have t1 := ixT_ok (env := e1) (s := 2) (k := 4) rfl rfl gv
    have t2 := ixT_ok (env := e1) (s := 3) (k := 4) rfl rfl gf
    have t3 := eOp_ok (p := pMod) (int_ok t1) t2 rfl rfl (by rw [u_pMod, if_pos fp])
    have t4 : bE (eOp pNe (eOp pMod (eCb pInt (aCons (eOp pIx (eVar 2) (eVar 4)) aNil)) (eOp pIx (eVar 3) (eVar 4))) (eC (.int 0))) e1 = some (!decide (v.getD h 0 % f.getD h 0 = 0), e1) := by
      rw [u_bE, eOp_ok t3 (u_eC _) rfl rfl pNe_int]
      rfl
    have hg : gT 2 (gCons (gN 3) (gCons (gN 4) gNil)) (.tuple [rowT f, .int (h : Nat)]) [.val fd, .val hd, .val (rowT v), s3, s4, .no] = some e1 := gT2_ok rfl rfl
    have P1 : 1 ≤ (1 + M) ^ F.length := Nat.pow_pos (by omega)
    have hpow : X * (1 + M) ^ (f :: F).length = (X + X * M) * (1 + M) ^ F.length := by
      rw [List.length_cons, Nat.pow_succ]
      grind
    have hXb : X + X * M < 2 ^ b := by
      have : (X + X * M) * 1 ≤ (X + X * M) * (1 + M) ^ F.length := Nat.mul_le_mul_left _ P1
      omega
    unfold madeR
    by_cases hz : v.getD h 0 % f.getD h 0 = 0
    · rw [if_pos hz]
      rw [decide_eq_true hz] at t4
      have t5 := eOp_ok (p := pFdiv) t1 t2 rfl rfl (by rw [u_pFdiv, if_pos fp])
      have t6 : eUn pNeg (eOp pFdiv (eOp pIx (eVar 2) (eVar 4)) (eOp pIx (eVar 3) (eVar 4))) e1 = some (.val (.int (-(v.getD h 0 / f.getD h 0))), e1) := by
        simp only [eUn, t5, Option.bind_some, u_deref1, u_pNeg, Option.map_some]
      have bx : (v.getD h 0).natAbs ≤ X := hx _ (List.mem_of_getElem? gv)
      have bq0 : (-(v.getD h 0 / f.getD h 0)).natAbs ≤ X := by
        rw [Int.natAbs_neg]
        exact Nat.le_trans (div_abs _ _) bx
      have bq : (-(v.getD h 0 / f.getD h 0)).natAbs < 2 ^ b := by omega
      have t7 := g_sum_eq (a := v) (b := f) (da := rowT v) (db := rowT f) (.inr rfl) (.inr rfl) bq (m := b) (fun x hxx => Nat.lt_of_le_of_lt (hf f List.mem_cons_self x hxx) hM) hbb (by omega)
      have t8 := eCall_ok (g := g__law_sum) (aCons_ok (show eVar 2 e1 = some (.val (rowT v), e1) from rfl) (aCons_ok (show eVar 3 e1 = some (.val (rowT f), e1) from rfl) (aCons_ok t6 u_aNil))) rfl t7
      have t9 := xSet_ok (i := 2) t8 rfl (by simp [e1])
      have body : madeB e1 = some (.nx, [.val fd, .val hd, .val (rowT (sumP v f (-(v.getD h 0 / f.getD h 0)))), .val (rowT f), .val (.int (h : Nat)), .no]) := xSeq_nx (xIf_f t4 rfl) t9
      obtain ⟨s3', s4', ih⟩ := made_loop hn hM hbb F hs (sumP v f (-(v.getD h 0 / f.getD h 0))) (X + X * M) (.val (rowT f)) (.val (.int (h : Nat))) (by simpa using hl) (fun r hr => hw r (List.mem_cons_of_mem _ hr)) (by rw [sum_len (by omega)]; exact hv) (fun k hk => hlt k (List.mem_cons_of_mem _ hk)) (fun p hpp => hp p (List.mem_cons_of_mem _ hpp)) (fun g hgg => hf g (List.mem_cons_of_mem _ hgg)) (fun x hxx => by
        unfold sumP at hxx
        obtain ⟨⟨y, z⟩, hyz, rfl⟩ := List.mem_map.mp hxx
        have q1 := hx y (List.of_mem_zip hyz).1
        have q2 := hf f List.mem_cons_self z (List.of_mem_zip hyz).2
        have q3 : (-(v.getD h 0 / f.getD h 0) * z).natAbs ≤ X * M := by
          rw [Int.natAbs_mul]
          exact Nat.mul_le_mul bq0 q2
        simp only
        omega) (by rw [← hpow]; exact hX)
      refine ⟨s3', s4', ?_⟩
      rcases ih with ⟨w, h1, h2, h3⟩ | ⟨h1, e, h3⟩
      · refine .inl ⟨w, h1, h2, ?_⟩
        simp only [List.zip_cons_cons, List.map_cons, forF, hg, body, Option.bind_some]
        exact h3
      · refine .inr ⟨h1, e, ?_⟩
        simp only [List.zip_cons_cons, List.map_cons, forF, hg, body, Option.bind_some]
        exact h3
    · rw [if_neg hz]
      rw [decide_eq_false hz] at t4
      have body : madeB e1 = some (.ret (.bool false), e1) := xSeq_ret (xIf_t t4 (xRet_ok (u_eC _) rfl))
      refine ⟨s3, s4, .inr ⟨rfl, e1, ?_⟩⟩
      simp only [List.zip_cons_cons, List.map_cons, forF, hg, body, Option.bind_some]
  | [], _ :: _, _, _, _, _, hl, _, _, _, _, _, _, _ => by simp at hl
  | _ :: _, [], _, _, _, _, hl, _, _, _, _, _, _, _ => by simp at hl
end K52
set_option Elab.async false
set_option linter.all false
set_option maxRecDepth 100000
set_option maxHeartbeats 1000000
/-! _law_made, closed: the answer is whether the row is in the form's lattice. -/
namespace K52
open PySem PySem.Spec L2 Sm
def headL (hs : List Nat) : D := .list (hs.map fun h => .int (h : Nat))
theorem ech_pairs : ∀ {F : Mat} {hs : List Nat}, Ech (F.map vec) hs → F.length = hs.length ∧ ∀ p ∈ F.zip hs, 0 < p.1.getD p.2 0
  | [], [], _ => ⟨rfl, fun p hp => by cases hp⟩
  | f :: F, h :: hs, e => by
    have ⟨i1, i2⟩ := ech_pairs e.2.2.2
    refine ⟨by simp [i1], fun p hp => ?_⟩
    rw [List.zip_cons_cons] at hp
    cases hp with
    | head => exact e.2.1
    | tail _ h => exact i2 p h
  | [], _ :: _, e => e.elim
  | _ :: _, [], e => e.elim
theorem ech_lt {n : Nat} {F : Mat} {hs : List Nat} (e : Ech (F.map vec) hs) (hw : Wd n F) : ∀ h ∈ hs, h < n := by
  intro h hh
  have ⟨i1, i2⟩ := ech_pairs e
  obtain ⟨i, hi⟩ := List.getElem?_of_mem hh
  have hil : i < hs.length := (List.getElem?_eq_some_iff.mp hi).1
  have hz : (F.zip hs)[i]? = some (F[i]'(by omega), h) := by
    rw [List.getElem?_zip_eq_some]
    exact ⟨List.getElem?_eq_getElem (by omega), hi⟩
  have hm := List.mem_of_getElem? hz
  have hp := i2 _ hm
  have hf := hw _ (List.of_mem_zip hm).1
  simp only at hp hf
  by_cases hc : h < n
  · exact hc
  · rw [List.getD_eq_getElem?_getD, List.getElem?_eq_none (by omega)] at hp
    simp at hp
theorem zid_made (F : Mat) (hs : List Nat) : ziD (F.map rowT) (hs.map fun h => PyData.int (h : Nat)) = (F.zip hs).map fun p => PyData.tuple [rowT p.1, .int (p.2 : Nat)] := by
  unfold ziD
  rw [List.zip_map, List.map_map]
  rfl
theorem made_end {a b c d : Sl} {w : Row} (hw : w.length ≤ 1000000) : xRet (eOp pEq (eLc [5] (lSeq (eVar 2)) (gN 5) (bE (eOp pNe (eVar 5) (eC (.int 0)))) (eC (.int 1))) (eLst aNil)) [a, b, .val (rowT w), c, d, .no] = some (.ret (.bool (decide (∀ x ∈ w, x = 0))), [a, b, .val (rowT w), c, d, .no]) := by
  have key : lcF (gN 5) (bE (eOp pNe (eVar 5) (eC (.int 0)))) (eC (.int 1)) [5] (w.map PyData.int) [a, b, .val (rowT w), c, d, .no] = some ((w.filter fun x => !decide (x = 0)).map fun _ => PyData.int 1, [a, b, .val (rowT w), c, d, .no]) := by
    refine lcF_filter _ _ _ _ fun x hx => ?_
    exact ⟨[a, b, .val (rowT w), c, d, .val (.int x)], [a, b, .val (rowT w), c, d, .val (.int x)], by simp, by simp [pNe_int], fun _ => ⟨_, _, _, rfl, rfl, by simp⟩, fun _ => by simp⟩
  have hi : lSeq (eVar 2) [a, b, .val (rowT w), c, d, .no] = some (w.map PyData.int, [a, b, .val (rowT w), c, d, .no]) := by simp [rowT]
  have hc := eLc_ok hi rfl key (by
    rw [List.length_map]
    exact Nat.le_trans (List.length_filter_le _ _) hw)
  have e1 : ((w.filter fun x => !decide (x = 0)).map fun _ => PyData.int 1) = (((w.filter fun x => !decide (x = 0)).map fun _ => (1 : Int)).map PyData.int) := by rw [List.map_map]; rfl
  rw [e1] at hc
  have q := pEq_rowL ((w.filter fun x => !decide (x = 0)).map fun _ => (1 : Int)) []
  have hd : decide (((w.filter fun x => !decide (x = 0)).map fun _ => (1 : Int)) = []) = decide (∀ x ∈ w, x = 0) := by
    apply decide_eq_decide.mpr
    rw [List.map_eq_nil_iff, List.filter_eq_nil_iff]
    constructor
    · intro h x hx
      have := h x hx
      simpa using this
    · intro h x hx
      simp [h x hx]
  rw [hd] at q
  exact xRet_ok (eOp_ok (y := rowL []) (rb := .fr (rowL [])) hc (by simp; rfl) rfl rfl q) rfl
theorem g_lawmade_eq {n M b X : Nat} {F : Mat} {hs : List Nat} {v : Row} (hn : n ≤ 1000000) (hM : M < 2 ^ b) (hbb : b + b < 134000000) (e : Ech (F.map vec) hs) (hw : Wd n F) (hv : v.length = n) (hf : ∀ f ∈ F, ∀ x ∈ f, x.natAbs ≤ M) (hx : ∀ x ∈ v, x.natAbs ≤ X) (hX : X * (1 + M) ^ F.length < 2 ^ b) :
    ∃ ans : Bool, g__law_made [matT F, headL hs, rowT v] = some (.bool ans) ∧ (ans = true ↔ LatL (F.map vec) (vec v)) := by
  have ⟨p1, p2⟩ := ech_pairs e
  obtain ⟨s3, s4, hl⟩ := made_loop (fd := matT F) (hd := headL hs) hn hM hbb F hs v X .no .no p1 hw hv (ech_lt e hw) p2 hf hx hX
  have hi : lZi (aCons (eVar 0) (aCons (eVar 1) aNil)) [.val (matT F), .val (headL hs), .val (rowT v), .no, .no, .no] = some ((F.zip hs).map fun p => PyData.tuple [rowT p.1, .int (p.2 : Nat)], [.val (matT F), .val (headL hs), .val (rowT v), .no, .no, .no]) := by
    simp [matT, headL, zid_made]
  have iff := madeR_iff e hw hv
  rcases hl with ⟨w, h1, h2, h3⟩ | ⟨h1, e', h3⟩
  · refine ⟨decide (∀ x ∈ w, x = 0), ?_, ?_⟩
    · refine runP_ok (e := [.val (matT F), .val (headL hs), .val (rowT w), s3, s4, .no]) rfl ?_
      unfold F__law_made
      refine xSeq_nx (e1 := [.val (matT F), .val (headL hs), .val (rowT w), s3, s4, .no]) ?_ (made_end (by omega))
      show xFor _ _ _ _ = _
      simp only [xFor]
      erw [hi]
      exact h3
    · rw [decide_eq_true_iff, iff, h1]
      constructor
      · intro h
        exact ⟨w, rfl, vec_zero.mpr h⟩
      · rintro ⟨w', h4, h5⟩
        cases h4
        exact vec_zero.mp h5
  · refine ⟨false, ?_, ?_⟩
    · refine runP_ok (e := e') rfl ?_
      unfold F__law_made
      refine xSeq_ret ?_
      show xFor _ _ _ _ = _
      simp only [xFor]
      erw [hi]
      exact h3
    · rw [iff, h1]
      constructor
      · intro h
        cases h
      · rintro ⟨w', h4, _⟩
        cases h4
end K52
set_option Elab.async false
set_option linter.all false
set_option maxRecDepth 100000
set_option maxHeartbeats 1000000
/-! _law_shape: of a plain form it gives the heads. -/
namespace K52
open PySem PySem.Spec L2 Sm
def supp (n : Nat) (f : Row) : List Nat := (List.range n).filter fun j => !decide (f.getD j 0 = 0)
theorem supp_head {n h : Nat} {f : Row} (hn : h < n) (hz : ∀ j, j < h → vec f j = 0) (hp : 0 < vec f h) : ∃ tl, supp n f = h :: tl := by
  unfold supp
  have e : List.range n = List.range h ++ (h :: (List.range (n - h - 1)).map fun i => h + 1 + i) := by
    apply List.ext_getElem?
    intro i
    rcases Nat.lt_trichotomy i h with z | z | z
    · rw [List.getElem?_append_left (by simpa using z), List.getElem?_range (by omega), List.getElem?_range z]
    · subst z
      rw [List.getElem?_append_right (by simp), List.getElem?_range hn]
      simp
    · rw [List.getElem?_append_right (by simp; omega), List.length_range]
      obtain ⟨k, rfl⟩ : ∃ k, i = h + 1 + k := ⟨i - h - 1, by omega⟩
      rw [show h + 1 + k - h = k + 1 by omega, List.getElem?_cons_succ, List.getElem?_map]
      by_cases c : h + 1 + k < n
      · rw [List.getElem?_range c, List.getElem?_range (by omega)]
        rfl
      · rw [List.getElem?_eq_none (by simp; omega), List.getElem?_eq_none (by simp; omega)]
        rfl
  rw [e, List.filter_append]
  have z1 : (List.range h).filter (fun j => !decide (f.getD j 0 = 0)) = [] := by
    rw [List.filter_eq_nil_iff]
    intro j hj
    have := hz j (List.mem_range.mp hj)
    unfold vec at this
    rw [decide_eq_true this]
    decide
  rw [z1, List.nil_append, List.filter_cons_of_pos (by
    unfold vec at hp
    rw [decide_eq_false (by omega)]
    rfl)]
  exact ⟨_, rfl⟩
theorem sh_some {a b : Sl} {s4 s6 : Sl} {n : Nat} {f : Row} (hn : n < 1000000) (hf : f.length = n) : eLc [5] (lRng1 (aCons (eVar 1) aNil)) (gN 5) (bE (eOp pNe (eOp pIx (eVar 3) (eVar 5)) (eC (.int 0)))) (eVar 5) [a, .val (.int n), b, .val (rowT f), s4, .no, s6] = some (.fr (headL (supp n f)), [a, .val (.int n), b, .val (rowT f), s4, .no, s6]) := by
  have key : lcF (gN 5) (bE (eOp pNe (eOp pIx (eVar 3) (eVar 5)) (eC (.int 0)))) (eVar 5) [5] ((List.range n).map fun i => PyData.int (i : Nat)) [a, .val (.int n), b, .val (rowT f), s4, .no, s6] = some (((List.range n).filter fun j => !decide (f.getD j 0 = 0)).map fun i => PyData.int (i : Nat), [a, .val (.int n), b, .val (rowT f), s4, .no, s6]) := by
    refine lcF_filter _ _ _ _ fun j hj => ?_
    have hjn := List.mem_range.mp hj
    have gf : f[j]? = some (f.getD j 0) := by
      rw [List.getD_eq_getElem?_getD, List.getElem?_eq_getElem (by omega)]
      rfl
    have t := ixT_ok (env := [a, .val (.int n), b, .val (rowT f), s4, .val (.int (j : Nat)), s6]) (s := 3) (k := 5) rfl rfl gf
    refine ⟨[a, .val (.int n), b, .val (rowT f), s4, .val (.int (j : Nat)), s6], [a, .val (.int n), b, .val (rowT f), s4, .val (.int (j : Nat)), s6], by simp, ?_, fun _ => ⟨_, _, _, rfl, rfl, by simp⟩, fun _ => by simp⟩
    rw [u_bE, eOp_ok t (u_eC _) rfl rfl pNe_int]
    rfl
  have hr := rng1 (a := aCons (eVar 1) aNil) (env := [a, .val (.int n), b, .val (rowT f), s4, .no, s6]) (e := [a, .val (.int n), b, .val (rowT f), s4, .no, s6]) (n := n) (by simp) hn
  exact eLc_ok hr rfl key (by
    rw [List.length_map]
    refine Nat.le_trans (List.length_filter_le _ _) ?_
    rw [List.length_range]
    omega)
end K52
set_option Elab.async false
set_option linter.all false
set_option maxRecDepth 100000
set_option maxHeartbeats 1000000
namespace K52
open PySem PySem.Spec L2 Sm
def ofN (hs : List Nat) : Row := hs.map fun (h : Nat) => (h : Int)
theorem headL_row (hs : List Nat) : headL hs = rowL (ofN hs) := by
  unfold headL rowL ofN
  rw [List.map_map]
  rfl
theorem ofN_inj : ∀ {hs ks : List Nat}, ofN hs = ofN ks → hs = ks
  | [], [], _ => rfl
  | [], _ :: _, e => by cases e
  | _ :: _, [], e => by cases e
  | h :: hs, k :: ks, e => by
    have ⟨e1, e2⟩ := List.cons.inj e
    rw [ofN_inj e2, Int.ofNat.inj e1]
theorem atI_last {α : Type} {xs : List α} {x : α} : atI (xs ++ [x]) (-1) = some x := by
  unfold atI ixN
  rw [if_neg (by decide), List.length_append, List.length_singleton, if_pos (by omega), show ((-1 : Int) + ((xs.length + 1 : Nat) : Int)).toNat = xs.length by omega]
  simp
theorem ofN_dec (hs ks : List Nat) : decide (ofN hs = ofN ks) = decide (hs = ks) := decide_eq_decide.mpr ⟨ofN_inj, fun h => by rw [h]⟩
theorem pEq_head (hs ks : List Nat) : pEq (headL hs) (headL ks) = some (.val (.bool (decide (hs = ks)))) := by
  rw [headL_row, headL_row, pEq_rowL, ofN_dec]
theorem pNe_head (hs ks : List Nat) : pNe (headL hs) (headL ks) = some (.val (.bool (!decide (hs = ks)))) := by
  rw [headL_row, headL_row]
  unfold pNe
  rw [if_pos ⟨shaped_rowL _, shaped_rowL _⟩]
  unfold rowL
  simp only [PyData.eqv, eqv_ints, ofN_dec]
noncomputable abbrev shapeB : Ex := xSeq (xSet 4 (eLc [5] (lRng1 (aCons (eVar 1) aNil)) (gN 5) (bE (eOp pNe (eOp pIx (eVar 3) (eVar 5)) (eC (.int 0)))) (eVar 5)))
    (xSeq (xIf (bOr (bE (eOp pEq (eVar 4) (eLst aNil))) (bOr (bE (eOp pLt (eOp pIx (eVar 3) (eOp pIx (eVar 4) (eC (.int 0)))) (eC (.int 0)))) (bAnd (bE (eOp pNe (eVar 2) (eLst aNil))) (bE (eOp pGe (eOp pIx (eVar 2) (eUn pNeg (eC (.int 1)))) (eOp pIx (eVar 4) (eC (.int 0)))))))) (xRet (eC .none)) xNx)
    (xEx (eMeth 2 pmAppend (aCons (eOp pIx (eVar 4) (eC (.int 0))) aNil))))
theorem shape_turn {a : Sl} {s4 s6 : Sl} {n h : Nat} {f : Row} {found : List Nat} (hn : n < 1000000) (hf : f.length = n) (hz : ∀ j, j < h → vec f j = 0) (hp : 0 < vec f h) (hh : h < n) (hlt : ∀ k ∈ found, k < h) (hfl : found.length < 1000000) :
    ∃ s4', shapeB [a, .val (.int n), .own false (headL found), .val (rowT f), s4, .no, s6] = some (.nx, [a, .val (.int n), .own false (headL (found ++ [h])), .val (rowT f), s4', .no, s6]) := by
  obtain ⟨tl, ht⟩ := supp_head hh hz hp
  let e1 : Env' := [a, .val (.int n), .own false (headL found), .val (rowT f), .own false (headL (h :: tl)), .no, s6]
  refine ⟨.own false (headL (h :: tl)), ?_⟩
  have t0 := sh_some (a := a) (b := .own false (headL found)) (s4 := s4) (s6 := s6) hn hf
  rw [ht] at t0
  have t1 := xSet_ok (i := 4) t0 rfl (by simp)
  have gf : f[h]? = some (f.getD h 0) := by
    rw [List.getD_eq_getElem?_getD, List.getElem?_eq_getElem (by omega)]
    rfl
  have t2 : eOp pIx (eVar 4) (eC (.int 0)) e1 = some (.val (.int (h : Nat)), e1) := eOp_ok (ra := .var 4) (rb := .val (.int 0)) (x := headL (h :: tl)) (y := .int 0) rfl rfl rfl rfl (by
    unfold headL
    rw [u_pIxL, show (0 : Int) = ((0 : Nat) : Int) from rfl, atI_get (x := .int (h : Nat)) rfl]
    rfl)
  have t3 : eOp pIx (eVar 3) (eOp pIx (eVar 4) (eC (.int 0))) e1 = some (.val (.int (f.getD h 0)), e1) := by
    refine eOp_ok (ra := .val (rowT f)) (x := rowT f) (y := .int (h : Nat)) rfl t2 rfl rfl ?_
    unfold rowT
    rw [u_pIxT, atI_get (x := .int (f.getD h 0)) (by rw [List.getElem?_map, gf]; rfl)]
    rfl
  have c1 : bE (eOp pEq (eVar 4) (eLst aNil)) e1 = some (false, e1) := by
    rw [u_bE, eOp_ok (ra := .var 4) (rb := .fr (headL [])) (e1 := e1) rfl rfl rfl rfl (pEq_head (h :: tl) [])]
    rfl
  have c2 : bE (eOp pLt (eOp pIx (eVar 3) (eOp pIx (eVar 4) (eC (.int 0)))) (eC (.int 0))) e1 = some (false, e1) := by
    rw [u_bE, eOp_ok t3 (u_eC _) rfl rfl (u_pCmpI)]
    unfold vec at hp
    rw [decide_eq_false (by omega)]
    rfl
  have c3 : bE (eOp pNe (eVar 2) (eLst aNil)) e1 = some (!decide (found = []), e1) := by
    rw [u_bE, eOp_ok (ra := .var 2) (rb := .fr (headL [])) (e1 := e1) rfl rfl rfl rfl (pNe_head found [])]
    rfl
  have c4 : bAnd (bE (eOp pNe (eVar 2) (eLst aNil))) (bE (eOp pGe (eOp pIx (eVar 2) (eUn pNeg (eC (.int 1)))) (eOp pIx (eVar 4) (eC (.int 0))))) e1 = some (false, e1) := by
    rw [u_bAnd, c3]
    rcases List.eq_nil_or_concat found with rfl | ⟨pre, k, hpk⟩
    · rfl
    · rw [List.concat_eq_append] at hpk
      subst hpk
      have hk : k < h := hlt k (by simp)
      rw [decide_eq_false (by simp)]
      have t5 : eOp pIx (eVar 2) (eUn pNeg (eC (.int 1))) e1 = some (.val (.int (k : Nat)), e1) := by
        refine eOp_ok (ra := .var 2) (rb := .val (.int (-1))) (x := headL (pre ++ [k])) (y := .int (-1)) (by simp [e1]) rfl (by simp [e1]) rfl ?_
        unfold headL
        rw [List.map_append, u_pIxL]
        simp only [List.map_cons, List.map_nil, atI_last]
        rfl
      simp only [Option.bind_some, Bool.not_false, if_true]
      rw [u_bE, eOp_ok t5 t2 rfl rfl (u_pCmpI)]
      rw [decide_eq_false (by omega)]
      rfl
  have c5 := xIf_f (F := xRet (eC .none)) (G := xNx) (c := bOr (bE (eOp pEq (eVar 4) (eLst aNil))) (bOr (bE (eOp pLt (eOp pIx (eVar 3) (eOp pIx (eVar 4) (eC (.int 0)))) (eC (.int 0)))) (bAnd (bE (eOp pNe (eVar 2) (eLst aNil))) (bE (eOp pGe (eOp pIx (eVar 2) (eUn pNeg (eC (.int 1)))) (eOp pIx (eVar 4) (eC (.int 0)))))))) (e1 := e1) (env := e1) (by
    rw [u_bOr, c1, Option.bind_some, if_neg Bool.false_ne_true, u_bOr, c2, Option.bind_some, if_neg Bool.false_ne_true]
    exact c4) u_xNx
  refine xSeq_nx t1 (xSeq_nx c5 ?_)
  rw [u_xEx, u_eMeth]
  show Option.map _ ((aCons (eOp pIx (eVar 4) (eC (.int 0))) aNil e1).bind _) = _
  rw [aCons_ok t2 u_aNil]
  simp only [Option.bind_some, u_fz1, u_frzL1, u_frzL0, u_frz1, Option.map_some]
  show Option.map _ (Option.map _ (pmAppend (found.map fun h => PyData.int (h : Nat)) [.int (h : Nat)])) = _
  unfold pmAppend
  simp only [List.length_map, hfl, if_true, Option.map_some]
  unfold headL
  rw [List.map_append]
  rfl
end K52
set_option Elab.async false
set_option linter.all false
set_option maxRecDepth 100000
set_option maxHeartbeats 1000000
/-! _law_shape: of a plain form it gives the heads. -/
namespace K52
open PySem PySem.Spec L2 Sm
theorem ech_above {h : Nat} : ∀ {F : List Vec} {hs : List Nat}, Ech F hs → (∀ g ∈ F, ∀ j, j ≤ h → g j = 0) → ∀ k ∈ hs, h < k
  | [], [], _, _, k, hk => by cases hk
  | f :: F, h' :: hs, e, z, k, hk => by
    cases hk with
    | head =>
      by_cases c : h < h'
      · exact c
      · have := z f List.mem_cons_self h' (by omega)
        have := e.2.1
        omega
    | tail _ hk => exact ech_above e.2.2.2 (fun g hg => z g (List.mem_cons_of_mem _ hg)) k hk
  | [], _ :: _, e, _, _, _ => e.elim
  | _ :: _, [], e, _, _, _ => e.elim
/-- rows one behind another, each with its head -/
theorem shape_gen {B : Ex} {n N : Nat} {mk : List Nat → Sl → Sl → Env'}
    (turn : ∀ (f : Row) (h : Nat) (found : List Nat) (s3 s4 : Sl), f.length = n → (∀ j, j < h → vec f j = 0) → 0 < vec f h → h < n → (∀ k ∈ found, k < h) → found.length < N → ∃ s4', gN 3 (rowT f) (mk found s3 s4) = some (mk found (.val (rowT f)) s4) ∧ B (mk found (.val (rowT f)) s4) = some (.nx, mk (found ++ [h]) (.val (rowT f)) s4')) :
    ∀ (F : Mat) (hs found : List Nat) (s3 s4 : Sl), Ech (F.map vec) hs → Wd n F → (∀ h ∈ hs, h < n) → (∀ k ∈ found, ∀ h ∈ hs, k < h) → found.length + F.length ≤ N →
    ∃ s3' s4', forF (gN 3) B (F.map rowT) (mk found s3 s4) = some (.nx, mk (found ++ hs) s3' s4') := by
  intro F
  induction F with
  | nil =>
    intro hs found s3 s4 e _ _ _ _
    cases hs with
    | nil => exact ⟨s3, s4, by rw [List.append_nil]; rfl⟩
    | cons _ _ => exact e.elim
  | cons f F ih =>
    intro hs found s3 s4 e hw hlt hfd hl
    cases hs with
    | nil => exact e.elim
    | cons h hs =>
      have hz : ∀ g ∈ F.map vec, ∀ j, j ≤ h → g j = 0 := e.2.2.1
      rw [List.length_cons] at hl
      obtain ⟨s4', t1, t2⟩ := turn f h found s3 s4 (hw f List.mem_cons_self) e.1 e.2.1 (hlt h List.mem_cons_self) (fun k hk => hfd k hk h List.mem_cons_self) (by omega)
      obtain ⟨s3', s4'', ih⟩ := ih hs (found ++ [h]) (.val (rowT f)) s4' e.2.2.2 (fun r hr => hw r (List.mem_cons_of_mem _ hr)) (fun k hk => hlt k (List.mem_cons_of_mem _ hk)) (fun k hk k' hk' => by
        rcases List.mem_append.mp hk with hk | hk
        · exact hfd k hk k' (List.mem_cons_of_mem _ hk')
        · rw [List.mem_singleton.mp hk]
          exact ech_above e.2.2.2 hz k' hk') (by
        rw [List.length_append, List.length_singleton]
        omega)
      refine ⟨s3', s4'', ?_⟩
      rw [List.append_assoc] at ih
      rw [List.map_cons]
      simp only [forF, t1, t2, Option.bind_some]
      exact ih
theorem shape_loop {a s6 : Sl} {n : Nat} (hn : n < 1000000) (F : Mat) (hs : List Nat) (s3 s4 : Sl) (e : Ech (F.map vec) hs) (hw : Wd n F) (hlt : ∀ h ∈ hs, h < n) (hl : F.length ≤ 1000000) :
    ∃ s3' s4', forF (gN 3) shapeB (F.map rowT) [a, .val (.int n), .own false (headL []), s3, s4, .no, s6] = some (.nx, [a, .val (.int n), .own false (headL hs), s3', s4', .no, s6]) :=
  shape_gen (B := shapeB) (n := n) (N := 1000000) (mk := fun found s3 s4 => [a, .val (.int n), .own false (headL found), s3, s4, .no, s6]) (fun f h found s3 s4 h1 h2 h3 h4 h5 h6 => by
    obtain ⟨s4', t⟩ := shape_turn (a := a) (s4 := s4) (s6 := s6) (found := found) hn h1 h2 h3 h4 h5 h6
    exact ⟨s4', rfl, t⟩) F hs [] s3 s4 e hw hlt (fun k hk => by cases hk) (by rw [List.length_nil]; omega)
end K52
set_option Elab.async false
set_option linter.all false
set_option maxRecDepth 100000
set_option maxHeartbeats 1000000
/-! _law_shape, its second loop; whole. -/
namespace K52
open PySem PySem.Spec L2 Sm
theorem between_ok {env : Env'} {x y : Int} {g h : Ev} (hg : g env = some (.val (.int x), env)) (hh : h env = some (.val (.int y), env)) : bNot (bE (eChain pLe pLt (eC (.int 0)) g h)) env = some (!(decide (0 ≤ x) && decide (x < y)), env) := by
  have e : eChain pLe pLt (eC (.int 0)) g h env = some (.val (.bool (decide (0 ≤ x) && decide (x < y))), env) := by
    rw [u_eChain]
    simp only [u_eC, hg, Option.bind_some, u_fz1, u_deref1, u_pCmpI]
    cases hx : decide (0 ≤ x) with
    | true => simp only [hh, Option.bind_some, u_deref1, u_pCmpI, Option.map_some, Bool.true_and]
    | false => simp only [Bool.false_and]
  rw [u_bNot, u_bE, e]
  rfl
/-- of rows that are reduced at a head, none is told -/
theorem none_over {α : Type} {g : Tg} {c : EvB} {f : Ev} {vs : List Nat} {env : Env'} (A : α → D) (xs : List α) (h : ∀ x ∈ xs, ∃ e1 e2, g (A x) env = some e1 ∧ c e1 = some (false, e2) ∧ wipeE e2 vs = env) : lcF g c f vs (xs.map A) env = some ([], env) := by
  have := lcF_filter (g := g) (c := c) (f := f) (vs := vs) (env := env) A (fun _ => PyData.none) (fun _ => false) xs fun x hx => by
    obtain ⟨e1, e2, h1, h2, h3⟩ := h x hx
    exact ⟨e1, e2, h1, h2, (fun z => absurd z (by decide)), fun _ => h3⟩
  rw [this, List.filter_eq_nil_iff.mpr (fun _ _ z => absurd z (by decide))]
  rfl
noncomputable abbrev shapeC : Ex := xIf (bE (eOp pNe (eLc [3] (lSeq (eSl (eVar 0) oNone (oSome (eVar 5)))) (gN 3) (bNot (bE (eChain pLe pLt (eC (.int 0)) (eOp pIx (eVar 3) (eVar 6)) (eOp pIx (eOp pIx (eVar 0) (eVar 5)) (eVar 6))))) (eC (.int 1))) (eLst aNil))) (xRet (eC .none)) xNx
theorem ixTT_ok {env : Env'} {m : Mat} {s a k i c : Nat} {r : Row} {x : Int} (h0 : env[s]? = some (.val (matT m))) (ha : env[a]? = some (.val (.int (i : Nat)))) (hc : env[k]? = some (.val (.int (c : Nat)))) (hr : m[i]? = some r) (hx : r[c]? = some x) :
    eOp pIx (eOp pIx (eVar s) (eVar a)) (eVar k) env = some (.val (.int x), env) := by
  have t1 : eOp pIx (eVar s) (eVar a) env = some (.val (rowT r), env) := by
    refine eOp_ok (e1 := env) (ra := .val (matT m)) (rb := .val (.int (i : Nat))) (x := matT m) (y := .int (i : Nat)) (by simp [h0]) (by simp [ha]) rfl rfl ?_
    unfold matT
    rw [u_pIxT, atI_get (x := rowT r) (by rw [List.getElem?_map, hr]; rfl)]
    rfl
  refine eOp_ok (e1 := env) (ra := .val (rowT r)) (rb := .val (.int (c : Nat))) (x := rowT r) (y := .int (c : Nat)) t1 (by simp [hc]) rfl rfl ?_
  unfold rowT
  rw [u_pIxT, atI_get (x := .int x) (by rw [List.getElem?_map, hx]; rfl)]
  rfl
theorem shape_turn2 {n i h : Nat} {F : Mat} {f : Row} {s1 s2 s3 s4 : Sl} (hw : Wd n F) (hf : F[i]? = some f) (hh : h < n) (hr : ∀ j g, j < i → F[j]? = some g → 0 ≤ vec g h ∧ vec g h < vec f h) :
    shapeC [.val (matT F), s1, s2, s3, s4, .val (.int (i : Nat)), .val (.int (h : Nat))] = some (.nx, [.val (matT F), s1, s2, .no, s4, .val (.int (i : Nat)), .val (.int (h : Nat))]) := by
  let e0 : Env' := [.val (matT F), s1, s2, .no, s4, .val (.int (i : Nat)), .val (.int (h : Nat))]
  have gv : ∀ r ∈ F, r[h]? = some (vec r h) := fun r hr => by
    unfold vec
    rw [List.getD_eq_getElem?_getD, List.getElem?_eq_getElem (by rw [hw r hr]; exact hh)]
    rfl
  have key : lcF (gN 3) (bNot (bE (eChain pLe pLt (eC (.int 0)) (eOp pIx (eVar 3) (eVar 6)) (eOp pIx (eOp pIx (eVar 0) (eVar 5)) (eVar 6))))) (eC (.int 1)) [3] ((F.take i).map rowT) e0 = some ([], e0) := by
    refine none_over _ _ fun g hg => ?_
    obtain ⟨j, hj⟩ := List.getElem?_of_mem hg
    rw [List.getElem?_take] at hj
    split at hj
    · rename_i hji
      have b := hr j g hji hj
      have hgm := List.mem_of_getElem? hj
      let e1 : Env' := [.val (matT F), s1, s2, .val (rowT g), s4, .val (.int (i : Nat)), .val (.int (h : Nat))]
      have t1 := ixT_ok (env := e1) (s := 3) (k := 6) rfl rfl (gv g hgm)
      have t2 := ixTT_ok (env := e1) (s := 0) (a := 5) (k := 6) rfl rfl rfl hf (gv f (List.mem_of_getElem? hf))
      have t3 := between_ok t1 t2
      rw [decide_eq_true b.1, decide_eq_true b.2] at t3
      exact ⟨e1, e1, rfl, t3, rfl⟩
    · cases hj
  have hi : lSeq (eSl (eVar 0) oNone (oSome (eVar 5))) [.val (matT F), s1, s2, s3, s4, .val (.int (i : Nat)), .val (.int (h : Nat))] = some ((F.take i).map rowT, [.val (matT F), s1, s2, s3, s4, .val (.int (i : Nat)), .val (.int (h : Nat))]) := by
    have hcut := cut_take (F.map rowT) i
    rw [← List.map_take] at hcut
    refine lSeq_ok (r := .val (.tuple ((F.take i).map rowT))) (e1 := [.val (matT F), s1, s2, s3, s4, .val (.int (i : Nat)), .val (.int (h : Nat))]) (d := .tuple ((F.take i).map rowT)) ?_ rfl rfl
    have q3 : pSl (matT F) none (some ((i : Nat) : Int)) = some (.val (.tuple ((F.take i).map rowT))) := by
      unfold matT
      rw [u_pSlT, hcut]
    have q1 : eVar 0 [.val (matT F), s1, s2, s3, s4, .val (.int (i : Nat)), .val (.int (h : Nat))] = some (.val (matT F), [.val (matT F), s1, s2, s3, s4, .val (.int (i : Nat)), .val (.int (h : Nat))]) := rfl
    have q2 : oSome (eVar 5) [.val (matT F), s1, s2, s3, s4, .val (.int (i : Nat)), .val (.int (h : Nat))] = some (some ((i : Nat) : Int), [.val (matT F), s1, s2, s3, s4, .val (.int (i : Nat)), .val (.int (h : Nat))]) := rfl
    simp only [eSl, q1, q2, u_oNone, Option.bind_some, u_fz1, u_deref1, q3, Option.map_some]
  have hc := eLc_ok hi (show wipeE [.val (matT F), s1, s2, s3, s4, .val (.int (i : Nat)), .val (.int (h : Nat))] [3] = e0 from rfl) key (Nat.zero_le _)
  have hb : bE (eOp pNe (eLc [3] (lSeq (eSl (eVar 0) oNone (oSome (eVar 5)))) (gN 3) (bNot (bE (eChain pLe pLt (eC (.int 0)) (eOp pIx (eVar 3) (eVar 6)) (eOp pIx (eOp pIx (eVar 0) (eVar 5)) (eVar 6))))) (eC (.int 1))) (eLst aNil)) [.val (matT F), s1, s2, s3, s4, .val (.int (i : Nat)), .val (.int (h : Nat))] = some (false, e0) := by
    rw [u_bE, eOp_ok (ra := .fr (headL [])) (rb := .fr (headL [])) (e1 := e0) hc rfl rfl rfl (pNe_head [] [])]
    rfl
  exact xIf_f hb rfl
theorem g_lawshape_eq {n : Nat} {F : Mat} {hs : List Nat} (hn : n < 1000000) (hl : F.length ≤ 1000000) (e : Ech (F.map vec) hs) (r : Red (F.map vec) hs) (hw : Wd n F) : g__law_shape [matT F, .int (n : Nat)] = some (headL hs) := by
  have hlt := ech_lt e hw
  obtain ⟨s3, s4, l1⟩ := shape_loop (a := .val (matT F)) (s6 := .no) hn F hs .no .no e hw hlt hl
  let e0 : Env' := [.val (matT F), .val (.int (n : Nat)), .own false (headL []), .no, .no, .no, .no]
  let e1 : Env' := [.val (matT F), .val (.int (n : Nat)), .own false (headL hs), s3, s4, .no, .no]
  have a1 : xSet 2 (eLst aNil) [.val (matT F), .val (.int (n : Nat)), .no, .no, .no, .no, .no] = some (.nx, e0) := rfl
  have a2 : xFor (lSeq (eVar 0)) (gN 3) shapeB e0 = some (.nx, e1) := by
    have hi : lSeq (eVar 0) e0 = some (F.map rowT, e0) := rfl
    simp only [xFor, hi, Option.bind_some]
    exact l1
  have hi : lEn (aCons (eVar 2) aNil) e1 = some (enD (hs.map fun h => PyData.int (h : Nat)), [.val (matT F), .val (.int (n : Nat)), .val (headL hs), s3, s4, .no, .no]) := rfl
  have hlen : F.length = hs.length := (ech_pairs e).1
  obtain ⟨env', h1, s3', s4', s5, s6, rfl⟩ := for_ok hi (I := fun _ env => ∃ s3 s4 s5 s6, env = [.val (matT F), .val (.int (n : Nat)), .val (headL hs), s3, s4, s5, s6]) ⟨_, _, _, _, rfl⟩ (g := gT 2 (gCons (gN 5) (gCons (gN 6) gNil))) (F := shapeC) (fun i env d hI hd => by
    obtain ⟨s3, s4, s5, s6, rfl⟩ := hI
    unfold enD at hd
    rw [List.getElem?_mapIdx, Option.map_eq_some_iff] at hd
    obtain ⟨dh, hdh, rfl⟩ := hd
    rw [List.getElem?_map, Option.map_eq_some_iff] at hdh
    obtain ⟨h, hh, rfl⟩ := hdh
    have hil : i < F.length := by rw [hlen]; exact lt_of_get hh
    have hf : F[i]? = some F[i] := List.getElem?_eq_getElem hil
    refine ⟨[.val (matT F), .val (.int (n : Nat)), .val (headL hs), s3, s4, .val (.int (i : Nat)), .val (.int (h : Nat))], _, rfl, .inl (shape_turn2 hw hf (hlt h (List.mem_of_getElem? hh)) fun j g hji hg => ?_), _, _, _, _, rfl⟩
    exact red_to r j i (vec g) (vec F[i]) h hji (by rw [List.getElem?_map, hg]; rfl) (by rw [List.getElem?_map, hf]; rfl) hh)
  have hF : F__law_shape [.val (matT F), .val (.int (n : Nat)), .no, .no, .no, .no, .no] = some (.ret (headL hs), [.val (matT F), .val (.int (n : Nat)), .val (headL hs), s3', s4', s5, s6]) := by
    unfold F__law_shape
    exact xSeq_nx a1 (xSeq_nx a2 (xSeq_nx h1 rfl))
  exact runP_ok rfl hF
end K52
set_option Elab.async false
set_option linter.all false
set_option maxRecDepth 100000
set_option maxHeartbeats 1000000
/-! _law_otherwise: one turn. -/
namespace K52
open PySem PySem.Spec L2 Sm
/-- the rows as vectors -/
def V (m : Mat) : Vec → Prop := fun u => ∃ r, r ∈ m ∧ u = vec r
theorem T_V {m : Mat} {u : Vec} : T 0 m u ↔ V m u := by
  constructor
  · rintro ⟨i, r, _, h2, h3⟩
    exact ⟨r, List.mem_of_getElem? h2, h3⟩
  · rintro ⟨r, h1, h2⟩
    obtain ⟨i, hi⟩ := List.getElem?_of_mem h1
    exact ⟨i, r, Nat.zero_le _, hi, h2⟩
theorem lat_TV {m : Mat} {v : Vec} : Lat (T 0 m) v ↔ Lat (V m) v := ⟨fun h => h.mono fun u hu => .of (T_V.mp hu), fun h => h.mono fun u hu => .of (T_V.mpr hu)⟩
/-- they make the same -/
def SameL (m m' : Mat) : Prop := ∀ v, Lat (V m) v ↔ Lat (V m') v
theorem SameL.refl (m : Mat) : SameL m m := fun _ => Iff.rfl
theorem SameL.trans {a b c : Mat} (h : SameL a b) (k : SameL b c) : SameL a c := fun v => (h v).trans (k v)
theorem sameL_of {m m' : Mat} (h : ∀ r ∈ m, Lat (V m') (vec r)) (k : ∀ r ∈ m', Lat (V m) (vec r)) : SameL m m' := fun v => ⟨fun hv => hv.mono fun u ⟨r, h1, h2⟩ => by rw [h2]; exact h r h1, fun hv => hv.mono fun u ⟨r, h1, h2⟩ => by rw [h2]; exact k r h1⟩
theorem lat_mem {m : Mat} {r : Row} (h : r ∈ m) : Lat (V m) (vec r) := .of ⟨r, h, rfl⟩
theorem same_ins {m : Mat} {z : Row} (i : Nat) (hz : vec z = fun _ => 0) : SameL m (m.take i ++ [z] ++ m.drop i) := by
  refine sameL_of (fun r hr => lat_mem ?_) fun r hr => ?_
  · have : r ∈ m.take i ++ m.drop i := by rw [List.take_append_drop]; exact hr
    rcases List.mem_append.mp this with h | h
    · exact List.mem_append_left _ (List.mem_append_left _ h)
    · exact List.mem_append_right _ h
  · rcases List.mem_append.mp hr with h | h
    · rcases List.mem_append.mp h with h | h
      · exact lat_mem (List.mem_of_mem_take h)
      · rw [List.mem_singleton.mp h, hz]
        exact .zero
    · exact lat_mem (List.mem_of_mem_drop h)
theorem same_set {m : Mat} {i : Nat} {r s : Row} (hi : m[i]? = some r) (h1 : Lat (V m) (vec s)) (h2 : Lat (V (m.set i s)) (vec r)) : SameL m (m.set i s) := by
  refine sameL_of (fun x hx => ?_) fun x hx => ?_
  · obtain ⟨j, hj⟩ := List.getElem?_of_mem hx
    by_cases e : j = i
    · subst e
      rw [hi] at hj
      cases hj
      exact h2
    · refine lat_mem (List.mem_of_getElem? (i := j) ?_)
      rw [List.getElem?_set_ne (Ne.symm e)]
      exact hj
  · rcases List.mem_or_eq_of_mem_set hx with h | h
    · exact lat_mem h
    · rw [h]
      exact h1
theorem vec_neg' (r : Row) : vec (r.map fun x => -x) = fun j => -1 * vec r j := by
  have e : (r.map fun x => -x) = negR r := by
    unfold negR
    apply List.map_congr_left
    intro x _
    omega
  rw [e, vec_neg]
theorem same_neg {m : Mat} {i : Nat} {r : Row} (hi : m[i]? = some r) : SameL m (m.set i (r.map fun x => -x)) := by
  have hm := List.mem_of_getElem? hi
  refine same_set hi ?_ ?_
  · rw [vec_neg']
    exact (lat_mem hm).smul (-1)
  · have h : (r.map fun x => -x) ∈ m.set i (r.map fun x => -x) := List.mem_of_getElem? (i := i) (List.getElem?_set_self (lt_of_get hi))
    have := (lat_mem h).smul (-1)
    rw [vec_neg'] at this
    have e : (fun j => -1 * (fun j => -1 * vec r j) j) = vec r := by
      funext j
      simp only
      omega
    rw [e] at this
    exact this
theorem same_sum {m : Mat} {i j : Nat} {r s : Row} {t : Int} (hi : m[i]? = some r) (hj : m[j]? = some s) (hij : i ≠ j) (hl : r.length = s.length) : SameL m (m.set i (sumP r s t)) := by
  refine same_set hi ?_ ?_
  · rw [vec_sum hl]
    exact (lat_mem (List.mem_of_getElem? hi)).axpy t (lat_mem (List.mem_of_getElem? hj))
  · have h1 : sumP r s t ∈ m.set i (sumP r s t) := List.mem_of_getElem? (i := i) (List.getElem?_set_self (lt_of_get hi))
    have h2 : s ∈ m.set i (sumP r s t) := List.mem_of_getElem? (i := j) (by rw [List.getElem?_set_ne hij]; exact hj)
    have := (lat_mem h1).axpy (-t) (lat_mem h2)
    rw [vec_sum hl] at this
    have e : (fun k => (fun k => vec r k + t * vec s k) k + -t * vec s k) = vec r := by
      funext k
      simp only
      grind
    rw [e] at this
    exact this
theorem same_app {m : Mat} {i j : Nat} {r s : Row} {t : Int} (hi : m[i]? = some r) (hj : m[j]? = some s) (hl : r.length = s.length) : SameL m (m ++ [sumP r s t]) := by
  refine sameL_of (fun x hx => lat_mem (List.mem_append_left _ hx)) fun x hx => ?_
  rcases List.mem_append.mp hx with h | h
  · exact lat_mem h
  · rw [List.mem_singleton.mp h, vec_sum hl]
    exact (lat_mem (List.mem_of_getElem? hi)).axpy t (lat_mem (List.mem_of_getElem? hj))
theorem same_rev {m : Mat} : SameL m m.reverse := sameL_of (fun x hx => lat_mem (List.mem_reverse.mpr hx)) fun x hx => lat_mem (List.mem_reverse.mp hx)
/-- entries of no more than X -/
def Le (X : Nat) (m : Mat) : Prop := ∀ r ∈ m, ∀ x ∈ r, x.natAbs ≤ X
theorem le_sz {X : Nat} {m : Mat} : Le X m ↔ Sz 0 X m := by
  constructor
  · intro h i r _ h2 x hx
    exact h r (List.mem_of_getElem? h2) x hx
  · intro h r hr x hx
    obtain ⟨i, hi⟩ := List.getElem?_of_mem hr
    exact h i r (Nat.zero_le _) hi x hx
theorem Le.mono {X Y : Nat} {m : Mat} (h : Le X m) (hxy : X ≤ Y) : Le Y m := fun r hr x hx => Nat.le_trans (h r hr x hx) hxy
/-- one turn's outcome: rows of the same make, at most one more, at most so great -/
structure Oth (n X : Nat) (m m' : Mat) : Prop where
  wd : Wd n m'
  len : m'.length ≤ m.length + 1
  le : Le (X + 1000 * X) m'
  same : SameL m m'
theorem oth_ins {n X : Nat} {m : Mat} (i : Nat) (hw : Wd n m) (hX : Le X m) : Oth n X m (m.take i ++ [List.replicate n 0] ++ m.drop i) := by
  refine ⟨fun r hr => ?_, ?_, fun r hr x hx => ?_, same_ins i (vec_zero.mpr fun x hx => (List.mem_replicate.mp hx).2)⟩
  · rcases List.mem_append.mp hr with h | h
    · rcases List.mem_append.mp h with h | h
      · exact hw r (List.mem_of_mem_take h)
      · rw [List.mem_singleton.mp h, List.length_replicate]
    · exact hw r (List.mem_of_mem_drop h)
  · rw [List.length_append, List.length_append, List.length_singleton, List.length_take, List.length_drop]
    omega
  · rcases List.mem_append.mp hr with h | h
    · rcases List.mem_append.mp h with h | h
      · exact Nat.le_trans (hX r (List.mem_of_mem_take h) x hx) (Nat.le_add_right _ _)
      · rw [List.mem_singleton.mp h] at hx
        rw [(List.mem_replicate.mp hx).2]
        exact Nat.zero_le _
    · exact Nat.le_trans (hX r (List.mem_of_mem_drop h) x hx) (Nat.le_add_right _ _)
theorem set_wd {n : Nat} {m : Mat} {i : Nat} {s : Row} (hw : Wd n m) (hs : s.length = n) : Wd n (m.set i s) := fun r hr => by
  rcases List.mem_or_eq_of_mem_set hr with h | h
  · exact hw r h
  · rw [h]; exact hs
theorem set_le {X Y : Nat} {m : Mat} {i : Nat} {s : Row} (hX : Le X m) (hXY : X ≤ Y) (hs : ∀ x ∈ s, x.natAbs ≤ Y) : Le Y (m.set i s) := fun r hr x hx => by
  rcases List.mem_or_eq_of_mem_set hr with h | h
  · exact Nat.le_trans (hX r h x hx) hXY
  · rw [h] at hx; exact hs x hx
theorem sum_le {X : Nat} {r s : Row} {t : Int} (hr : ∀ x ∈ r, x.natAbs ≤ X) (hs : ∀ x ∈ s, x.natAbs ≤ X) (ht : t.natAbs ≤ 1000) : ∀ x ∈ sumP r s t, x.natAbs ≤ X + 1000 * X := fun x hx => by
  unfold sumP at hx
  obtain ⟨⟨y, z⟩, hyz, rfl⟩ := List.mem_map.mp hx
  have q1 := hr y (List.of_mem_zip hyz).1
  have q2 := hs z (List.of_mem_zip hyz).2
  have q3 : (t * z).natAbs ≤ 1000 * X := by
    rw [Int.natAbs_mul]
    exact Nat.mul_le_mul ht q2
  simp only
  omega
theorem oth_neg {n X : Nat} {m : Mat} {i : Nat} {r : Row} (hw : Wd n m) (hX : Le X m) (hi : m[i]? = some r) : Oth n X m (m.set i (r.map fun x => -x)) := by
  have hm := List.mem_of_getElem? hi
  refine ⟨set_wd hw (by rw [List.length_map]; exact hw r hm), by rw [List.length_set]; omega, set_le hX (Nat.le_add_right _ _) fun x hx => ?_, same_neg hi⟩
  obtain ⟨y, hy, rfl⟩ := List.mem_map.mp hx
  rw [Int.natAbs_neg]
  exact Nat.le_trans (hX r hm y hy) (Nat.le_add_right _ _)
theorem oth_sum {n X : Nat} {m : Mat} {i j : Nat} {r s : Row} {t : Int} (hw : Wd n m) (hX : Le X m) (hi : m[i]? = some r) (hj : m[j]? = some s) (hij : i ≠ j) (ht : t.natAbs ≤ 1000) : Oth n X m (m.set i (sumP r s t)) := by
  have hm := List.mem_of_getElem? hi
  have hm2 := List.mem_of_getElem? hj
  have hl : r.length = s.length := by rw [hw r hm, hw s hm2]
  exact ⟨set_wd hw (by rw [sum_len hl]; exact hw r hm), by rw [List.length_set]; omega, set_le hX (Nat.le_add_right _ _) (sum_le (hX r hm) (hX s hm2) ht), same_sum hi hj hij hl⟩
theorem oth_app {n X : Nat} {m : Mat} {i j : Nat} {r s : Row} {t : Int} (hw : Wd n m) (hX : Le X m) (hi : m[i]? = some r) (hj : m[j]? = some s) (ht : t.natAbs ≤ 1000) : Oth n X m (m ++ [sumP r s t]) := by
  have hm := List.mem_of_getElem? hi
  have hm2 := List.mem_of_getElem? hj
  have hl : r.length = s.length := by rw [hw r hm, hw s hm2]
  refine ⟨fun x hx => ?_, by rw [List.length_append, List.length_singleton]; omega, fun x hx y hy => ?_, same_app hi hj hl⟩
  · rcases List.mem_append.mp hx with h | h
    · exact hw x h
    · rw [List.mem_singleton.mp h, sum_len hl]
      exact hw r hm
  · rcases List.mem_append.mp hx with h | h
    · exact Nat.le_trans (hX x h y hy) (Nat.le_add_right _ _)
    · rw [List.mem_singleton.mp h] at hy
      exact sum_le (hX r hm) (hX s hm2) ht y hy
theorem oth_rev {n X : Nat} {m : Mat} (hw : Wd n m) (hX : Le X m) : Oth n X m m.reverse :=
  ⟨fun r hr => hw r (List.mem_reverse.mp hr), by rw [List.length_reverse]; omega, fun r hr x hx => Nat.le_trans (hX r (List.mem_reverse.mp hr) x hx) (Nat.le_add_right _ _), same_rev⟩
end K52
set_option Elab.async false
set_option linter.all false
set_option maxRecDepth 100000
set_option maxHeartbeats 1000000
/-! _law_otherwise: one turn, as the program does it. -/
namespace K52
open PySem PySem.Spec L2 Sm
theorem eMeth_ok {i : Nat} {pm : List D → List D → Option (D × List D)} {a : EvA} {env e1 e2 : Env'} {p0 p : Bool} {d0 r : D} {rs : List R} {es ds ds' : List D} (h0 : env[i]? = some (.own p0 d0)) (h1 : a env = some (rs, e1)) (h2 : frzL e1 rs = some (es, e2)) (h3 : e2[i]? = some (.own p (.list ds))) (h4 : pm ds es = some (r, ds')) : eMeth i pm a env = some (.val r, e2.set i (.own p (.list ds'))) := by
  simp only [eMeth, h0, h1, Option.bind_some, h2, h3, h4, Option.map_some]
theorem xPar_ok {i j : Nat} {f g : Ev} {env e1 e2 e3 e4 : Env'} {r1 r2 : R} {s1 s2 : Sl} (h1 : f env = some (r1, e1)) (h2 : stoR e1 r1 = some (s1, e2)) (h3 : g e2 = some (r2, e3)) (h4 : stoR e3 r2 = some (s2, e4)) (hij : i ≠ j) (hi : i < e4.length) (hj : j < e4.length) : xPar i j f g env = some (.nx, (e4.set i s1).set j s2) := by
  have hc : i ≠ j ∧ i < e4.length ∧ j < e4.length := ⟨hij, hi, hj⟩
  simp only [xPar, h1, h2, h3, h4, Option.bind_some]
  exact if_pos hc
theorem xEx_ok {f : Ev} {env e1 : Env'} {r : R} (h : f env = some (r, e1)) : xEx f env = some (.nx, e1) := by
  simp only [xEx, h, Option.map_some]
theorem mulL_ok {xs : List D} {k : Int} (h1 : k < 1000000) (h2 : -1000000 < k) (h3 : xs.length * k.toNat ≤ 1000000) : pMul (.list xs) (.int k) = some (.fr (.list (List.replicate k.toNat xs).flatten)) := by
  rw [u_pMulL, if_pos ⟨h1, h2, h3⟩]
theorem mulL_nat {x : D} {n : Nat} (hn : n < 1000000) : pMul (.list [x]) (.int (n : Nat)) = some (.fr (.list (List.replicate n x))) := by
  rw [mulL_ok (by omega) (by omega) (by rw [Int.toNat_natCast, List.length_singleton]; omega), Int.toNat_natCast, List.flatten_replicate_singleton]
def zeroR (n : Nat) : Row := List.replicate n 0
theorem zero_ok {env : Env'} {k n : Nat} (hn : n < 1000000) (hk : env[k]? = some (.val (.int (n : Nat)))) : eCb pTuple (aCons (eOp pMul (eLst (aCons (eC (.int 0)) aNil)) (eVar k)) aNil) env = some (.val (rowT (zeroR n)), env) := by
  have l1 : eLst (aCons (eC (.int 0)) aNil) env = some (.fr (.list [.int 0]), env) := by
    rw [u_eLst, aCons_ok (u_eC _) u_aNil]
    rfl
  have l2 : eVar k env = some (.val (.int (n : Nat)), env) := by
    rw [u_eVar, hk]
  have l3 := eOp_ok (p := pMul) l1 l2 rfl rfl (mulL_nat hn)
  have e : rowT (zeroR n) = .tuple (List.replicate n (.int 0)) := by
    unfold rowT zeroR
    rw [List.map_replicate]
  rw [e]
  exact eCb_ok (aCons_ok l3 u_aNil) rfl u_pTupL
def matO (m : Mat) : D := .list (m.map rowT)
theorem shaped_matO (m : Mat) : SeqAt.shaped (matO m) = true := by
  have h1 : (matO m).canLay0 = true := canLay_mat m
  have h2 : (matO m).depth = PyData.depthAll (m.map rowT) + 1 := rfl
  have h3 := depth_mat m
  unfold SeqAt.shaped
  rw [h1, Bool.true_and, h2]
  exact decide_eq_true (Nat.le_trans (Nat.succ_le_succ h3) (show 3 ≤ 64 by decide))
theorem pEq_matO (m k : Mat) : pEq (matO m) (matO k) = some (.val (.bool (decide (m = k)))) := by
  unfold pEq
  rw [if_pos ⟨shaped_matO m, shaped_matO k⟩]
  have h : PyData.eqv (matO m) (matO k) = decide (m = k) := eqv_mats m k
  rw [h]
abbrev oe (d R : D) (n : Nat) (m : Mat) (s4 s5 s6 s7 : Sl) : Env' := [.own true d, .val R, .val (.int (n : Nat)), .own false (matO m), s4, s5, s6, s7, .no]
noncomputable abbrev othIns : Ex := xSeq (xEx (eMeth 3 pmInsert (aCons (eCallM g__law_take (aCons (eVar 0) (aCons (eOp pAdd (eCb pLen (aCons (eVar 3) aNil)) (eC (.int 1))) aNil))) (aCons (eCb pTuple (aCons (eOp pMul (eLst (aCons (eC (.int 0)) aNil)) (eVar 2)) aNil)) aNil))))
    xCnt
noncomputable abbrev othNeg : Ex := xAsg (gIx 3 (eVar 6)) (eCb pTuple (aCons (eLc [8] (lSeq (eOp pIx (eVar 3) (eVar 6))) (gN 8) bYes (eUn pNeg (eVar 8))) aNil))
noncomputable abbrev othSum : Ex := xAsg (gIx 3 (eVar 6)) (eCall g__law_sum (aCons (eOp pIx (eVar 3) (eVar 6)) (aCons (eOp pIx (eVar 3) (eVar 7)) (aCons (eCallM g__law_some (aCons (eVar 0) (aCons (eLst (aCons (eC (.int 1)) (aCons (eUn pNeg (eC (.int 1))) (aCons (eC (.int 2)) (aCons (eUn pNeg (eC (.int 7))) (aCons (eC (.int 1000)) aNil)))))) aNil))) aNil))))
noncomputable abbrev othApp : Ex := xEx (eMeth 3 pmAppend (aCons (eCall g__law_sum (aCons (eOp pIx (eVar 3) (eVar 6)) (aCons (eOp pIx (eVar 3) (eVar 7)) (aCons (eCallM g__law_some (aCons (eVar 0) (aCons (eLst (aCons (eC (.int 0)) (aCons (eC (.int 1)) (aCons (eUn pNeg (eC (.int 4))) aNil)))) aNil))) aNil)))) aNil))
section
variable {c n X b : Nat} {d R : D} {m : Mat} {s4 s5 s6 s7 : Sl}
theorem len3 : eCb pLen (aCons (eVar 3) aNil) (oe d R n m s4 s5 s6 s7) = some (.val (.int (m.length : Nat)), oe d R n m s4 s5 s6 s7) := by
  refine eCb_ok (rs := [.var 3]) (ds := [matO m]) rfl rfl ?_
  unfold matO
  rw [u_pLenL, List.length_map]
theorem ins_ok (hd : BagOk c d) (hc : c < 2 ^ 64) (hm : m.length < 900000) (hn : n < 1000000) (hw : Wd n m) (hX : Le X m) :
    ∃ d' m', BagOk (c + 1) d' ∧ Oth n X m m' ∧ othIns (oe d R n m s4 s5 s6 s7) = some (.ct, oe d' R n m' s4 s5 s6 s7) := by
  have l1 : eOp pAdd (eCb pLen (aCons (eVar 3) aNil)) (eC (.int 1)) (oe d R n m s4 s5 s6 s7) = some (.val (.int ((m.length : Nat) + 1)), oe d R n m s4 s5 s6 s7) := eOp_ok len3 (u_eC _) rfl rfl u_pAdd1
  obtain ⟨v, d', h1, h2, h3, h4⟩ := take_ok (env := oe d R n m s4 s5 s6 s7) (p := true) (k := (m.length : Nat) + 1) rfl hd hc (by omega) l1
  obtain ⟨j, rfl⟩ : ∃ j : Nat, v = j := ⟨v.toNat, by omega⟩
  have z := zero_ok (env := oe d' R n m s4 s5 s6 s7) (k := 2) hn rfl
  have a1 := aCons_ok h4 (aCons_ok z u_aNil)
  have p1 : pmInsert (m.map rowT) [.int (j : Nat), rowT (zeroR n)] = some (.none, (m.take j ++ [zeroR n] ++ m.drop j).map rowT) := by
    unfold pmInsert
    simp only
    rw [if_pos ⟨by rw [List.length_map]; omega, by omega, by omega⟩, Int.toNat_natCast, List.map_append, List.map_append, List.map_take, List.map_drop]
    rfl
  have q := eMeth_ok (i := 3) (pm := pmInsert) (p0 := false) (d0 := matO m) (p := false) (env := oe d R n m s4 s5 s6 s7) (e2 := oe d' R n m s4 s5 s6 s7) rfl a1 rfl rfl p1
  exact ⟨d', _, h3, oth_ins j hw hX, xSeq_nx (xEx_ok q) rfl⟩
theorem ixO_ok {env : Env'} {p : Bool} {s a i : Nat} {r : Row} (h0 : env[s]? = some (.own p (matO m))) (ha : env[a]? = some (.val (.int (i : Nat)))) (hr : m[i]? = some r) : eOp pIx (eVar s) (eVar a) env = some (.val (rowT r), env) := by
  refine eOp_ok (e1 := env) (ra := .var s) (rb := .val (.int (i : Nat))) (x := matO m) (y := .int (i : Nat)) ?_ ?_ ?_ rfl ?_
  · simp [h0]
  · simp [ha]
  · simp [h0]
  · unfold matO
    rw [u_pIxL, atI_get (x := rowT r) (by rw [List.getElem?_map, hr]; rfl)]
    rfl
theorem matO_set {i : Nat} {r : Row} : matO (m.set i r) = .list ((m.map rowT).set i (rowT r)) := by
  unfold matO
  rw [List.map_set]
theorem neg_ok {i : Nat} (hi : i < m.length) (hn : n ≤ 1000000) (hw : Wd n m) (hX : Le X m) : ∃ m', Oth n X m m' ∧ othNeg (oe d R n m s4 s5 (.val (.int (i : Nat))) s7) = some (.nx, oe d R n m' s4 s5 (.val (.int (i : Nat))) s7) := by
  obtain ⟨r, hr⟩ : ∃ r, m[i]? = some r := ⟨_, List.getElem?_eq_getElem hi⟩
  let e0 : Env' := oe d R n m s4 s5 (.val (.int (i : Nat))) s7
  have t1 := ixO_ok (env := e0) (p := false) (s := 3) (a := 6) rfl rfl hr
  have l1 : lSeq (eOp pIx (eVar 3) (eVar 6)) e0 = some (r.map PyData.int, e0) := lSeq_ok t1 rfl rfl
  have k1 : lcF (gN 8) bYes (eUn pNeg (eVar 8)) [8] (r.map PyData.int) e0 = some (r.map fun x => PyData.int (-x), e0) := by
    refine lcF_map _ _ _ fun x hx => ?_
    let e8 : Env' := [.own true d, .val R, .val (.int (n : Nat)), .own false (matO m), s4, s5, .val (.int (i : Nat)), s7, .val (.int x)]
    exact ⟨e8, e8, .val (.int (-x)), e8, e8, rfl, rfl, rfl, rfl, rfl⟩
  have hrl : r.length = n := hw r (List.mem_of_getElem? hr)
  have c1 := eLc_ok l1 (show wipeE e0 [8] = e0 from rfl) k1 (by rw [List.length_map]; omega)
  have e : (r.map fun x => PyData.int (-x)) = (r.map fun x => -x).map PyData.int := by
    rw [List.map_map]
    rfl
  rw [e] at c1
  have t2 : eCb pTuple (aCons (eLc [8] (lSeq (eOp pIx (eVar 3) (eVar 6))) (gN 8) bYes (eUn pNeg (eVar 8))) aNil) e0 = some (.val (rowT (r.map fun x => -x)), e0) := eCb_ok (aCons_ok c1 u_aNil) rfl u_pTupL
  refine ⟨m.set i (r.map fun x => -x), oth_neg hw hX hr, xAsg_ok t2 rfl ?_⟩
  rw [gIx_ok (i := 3) (fi := eVar 6) (env := e0) (k := i) (ds := m.map rowT) rfl rfl rfl (by rw [List.length_map]; exact hi), ← matO_set]
  rfl
theorem pick_ok {f : Ev} {ts : Row} (hd : BagOk c d) (hc : c < 2 ^ 64) (hts : ts ≠ []) (hf : f (oe d R n m s4 s5 s6 s7) = some (.fr (rowL ts), oe d R n m s4 s5 s6 s7)) :
    ∃ t d', t ∈ ts ∧ BagOk (c + 1) d' ∧ eCallM g__law_some (aCons (eVar 0) (aCons f aNil)) (oe d R n m s4 s5 s6 s7) = some (.val (.int t), oe d' R n m s4 s5 s6 s7) := by
  obtain ⟨x, d', h1, h2, h3⟩ := some_ok (env := oe d R n m s4 s5 s6 s7) (p := true) rfl hf rfl hd hc (by simpa using hts)
  obtain ⟨t, ht, rfl⟩ := List.mem_map.mp h1
  exact ⟨t, d', ht, h2, h3⟩
theorem sumcall_ok {i j : Nat} {f : Ev} {t : Int} {d' : D} {r s : Row} (hr : m[i]? = some r) (hs : m[j]? = some s) (hn : n ≤ 1000000) (hw : Wd n m) (hX : Le X m) (hXb : X < 2 ^ b) (hb : b + b < 134000000) (h10 : 10 ≤ b) (ht : t.natAbs ≤ 1000)
    (hf : f (oe d R n m s4 s5 (.val (.int (i : Nat))) (.val (.int (j : Nat)))) = some (.val (.int t), oe d' R n m s4 s5 (.val (.int (i : Nat))) (.val (.int (j : Nat))))) :
    eCall g__law_sum (aCons (eOp pIx (eVar 3) (eVar 6)) (aCons (eOp pIx (eVar 3) (eVar 7)) (aCons f aNil))) (oe d R n m s4 s5 (.val (.int (i : Nat))) (.val (.int (j : Nat)))) = some (.val (rowT (sumP r s t)), oe d' R n m s4 s5 (.val (.int (i : Nat))) (.val (.int (j : Nat)))) := by
  have t1 := ixO_ok (env := oe d R n m s4 s5 (.val (.int (i : Nat))) (.val (.int (j : Nat)))) (p := false) (s := 3) (a := 6) rfl rfl hr
  have t2 := ixO_ok (env := oe d R n m s4 s5 (.val (.int (i : Nat))) (.val (.int (j : Nat)))) (p := false) (s := 3) (a := 7) rfl rfl hs
  have hrl : r.length = n := hw r (List.mem_of_getElem? hr)
  have ht2 : t.natAbs < 2 ^ b := Nat.lt_of_lt_of_le (show t.natAbs < 2 ^ 10 by omega) (Nat.pow_le_pow_right (by decide) h10)
  have g := g_sum_eq (a := r) (b := s) (da := rowT r) (db := rowT s) (.inr rfl) (.inr rfl) ht2 (m := b) (fun x hx => Nat.lt_of_le_of_lt (hX s (List.mem_of_getElem? hs) x hx) hXb) hb (by omega)
  exact eCall_ok (aCons_ok t1 (aCons_ok t2 (aCons_ok hf u_aNil))) rfl g
theorem sum_ok {i j : Nat} (hd : BagOk c d) (hc : c < 2 ^ 64) (hi : i < m.length) (hj : j < m.length) (hij : i ≠ j) (hn : n ≤ 1000000) (hw : Wd n m) (hX : Le X m) (hXb : X < 2 ^ b) (hb : b + b < 134000000) (h10 : 10 ≤ b) :
    ∃ d' m', BagOk (c + 1) d' ∧ Oth n X m m' ∧ othSum (oe d R n m s4 s5 (.val (.int (i : Nat))) (.val (.int (j : Nat)))) = some (.nx, oe d' R n m' s4 s5 (.val (.int (i : Nat))) (.val (.int (j : Nat)))) := by
  obtain ⟨r, hr⟩ : ∃ r, m[i]? = some r := ⟨_, List.getElem?_eq_getElem hi⟩
  obtain ⟨s, hs⟩ : ∃ r, m[j]? = some r := ⟨_, List.getElem?_eq_getElem hj⟩
  obtain ⟨t, d', h1, h2, h3⟩ := pick_ok (R := R) (n := n) (m := m) (s4 := s4) (s5 := s5) (s6 := .val (.int (i : Nat))) (s7 := .val (.int (j : Nat))) (ts := [1, -1, 2, -7, 1000]) (f := eLst (aCons (eC (.int 1)) (aCons (eUn pNeg (eC (.int 1))) (aCons (eC (.int 2)) (aCons (eUn pNeg (eC (.int 7))) (aCons (eC (.int 1000)) aNil)))))) hd hc (by simp) rfl
  have ht : t.natAbs ≤ 1000 := by
    simp only [List.mem_cons, List.not_mem_nil, or_false] at h1
    rcases h1 with rfl | rfl | rfl | rfl | rfl <;> decide
  have t3 := sumcall_ok hr hs hn hw hX hXb hb h10 ht h3
  refine ⟨d', m.set i (sumP r s t), h2, oth_sum hw hX hr hs hij ht, xAsg_ok t3 rfl ?_⟩
  rw [gIx_ok (i := 3) (fi := eVar 6) (env := oe d' R n m s4 s5 (.val (.int (i : Nat))) (.val (.int (j : Nat)))) (k := i) (ds := m.map rowT) rfl rfl rfl (by rw [List.length_map]; exact hi), ← matO_set]
  rfl
theorem app_ok {i j : Nat} (hd : BagOk c d) (hc : c < 2 ^ 64) (hi : i < m.length) (hj : j < m.length) (hm : m.length < 900000) (hn : n ≤ 1000000) (hw : Wd n m) (hX : Le X m) (hXb : X < 2 ^ b) (hb : b + b < 134000000) (h10 : 10 ≤ b) :
    ∃ d' m', BagOk (c + 1) d' ∧ Oth n X m m' ∧ othApp (oe d R n m s4 s5 (.val (.int (i : Nat))) (.val (.int (j : Nat)))) = some (.nx, oe d' R n m' s4 s5 (.val (.int (i : Nat))) (.val (.int (j : Nat)))) := by
  obtain ⟨r, hr⟩ : ∃ r, m[i]? = some r := ⟨_, List.getElem?_eq_getElem hi⟩
  obtain ⟨s, hs⟩ : ∃ r, m[j]? = some r := ⟨_, List.getElem?_eq_getElem hj⟩
  obtain ⟨t, d', h1, h2, h3⟩ := pick_ok (R := R) (n := n) (m := m) (s4 := s4) (s5 := s5) (s6 := .val (.int (i : Nat))) (s7 := .val (.int (j : Nat))) (ts := [0, 1, -4]) (f := eLst (aCons (eC (.int 0)) (aCons (eC (.int 1)) (aCons (eUn pNeg (eC (.int 4))) aNil)))) hd hc (by simp) rfl
  have ht : t.natAbs ≤ 1000 := by
    simp only [List.mem_cons, List.not_mem_nil, or_false] at h1
    rcases h1 with rfl | rfl | rfl <;> decide
  have t3 := sumcall_ok hr hs hn hw hX hXb hb h10 ht h3
  have p1 : pmAppend (m.map rowT) [rowT (sumP r s t)] = some (.none, (m ++ [sumP r s t]).map rowT) := by
    unfold pmAppend
    simp only
    rw [if_pos (by rw [List.length_map]; omega), List.map_append]
    rfl
  have q := eMeth_ok (i := 3) (pm := pmAppend) (p0 := false) (d0 := matO m) (p := false) (env := oe d R n m s4 s5 (.val (.int (i : Nat))) (.val (.int (j : Nat)))) (e2 := oe d' R n m s4 s5 (.val (.int (i : Nat))) (.val (.int (j : Nat)))) rfl (aCons_ok t3 u_aNil) rfl rfl p1
  exact ⟨d', _, h2, oth_app hw hX hr hs ht, xEx_ok q⟩
end
end K52
set_option Elab.async false
set_option linter.all false
set_option maxRecDepth 100000
set_option maxHeartbeats 1000000
/-! _law_otherwise, whole. -/
namespace K52
open PySem PySem.Spec L2 Sm
noncomputable abbrev othLast : Ex := xIf (bE (eOp pEq (eVar 5) (eC (.int 1)))) othNeg (xIf (bAnd (bE (eOp pEq (eVar 5) (eC (.int 2)))) (bE (eOp pNe (eVar 6) (eVar 7)))) othSum (xIf (bE (eOp pEq (eVar 5) (eC (.int 3)))) othApp (xSet 3 (eRev (eVar 3)))))
noncomputable abbrev othPar : Ex := xPar 6 7 (eCallM g__law_take (aCons (eVar 0) (aCons (eCb pLen (aCons (eVar 3) aNil)) aNil))) (eCallM g__law_take (aCons (eVar 0) (aCons (eCb pLen (aCons (eVar 3) aNil)) aNil)))
noncomputable abbrev othB : Ex := xSeq (xSet 5 (eCallM g__law_take (aCons (eVar 0) (aCons (eC (.int 5)) aNil))))
    (xSeq (xIf (bOr (bE (eOp pEq (eVar 5) (eC (.int 0)))) (bE (eOp pEq (eVar 3) (eLst aNil)))) othIns xNx)
    (xSeq othPar othLast))
theorem eqI_ok {env : Env'} {k : Nat} {x y : Int} (hk : env[k]? = some (.val (.int x))) : bE (eOp pEq (eVar k) (eC (.int y))) env = some (decide (x = y), env) := by
  rw [u_bE, eOp_ok (ra := .val (.int x)) (e1 := env) (by rw [u_eVar, hk]) (u_eC _) rfl rfl pEq_int]
  rfl
theorem neII_ok {env : Env'} {k l : Nat} {x y : Int} (hk : env[k]? = some (.val (.int x))) (hl : env[l]? = some (.val (.int y))) : bE (eOp pNe (eVar k) (eVar l)) env = some (!decide (x = y), env) := by
  rw [u_bE, eOp_ok (ra := .val (.int x)) (rb := .val (.int y)) (e1 := env) (by rw [u_eVar, hk]) (by rw [u_eVar, hl]) rfl rfl pNe_int]
  rfl
theorem bOr_t {p q : EvB} {env e1 : Env'} (h : p env = some (true, e1)) : bOr p q env = some (true, e1) := by
  simp only [bOr, h, Option.bind_some, if_true]
theorem bOr_f {p q : EvB} {env e1 : Env'} {r : Option (Bool × Env')} (h : p env = some (false, e1)) (h2 : q e1 = r) : bOr p q env = r := by
  simp only [bOr, h, Option.bind_some, Bool.false_eq_true, if_false, h2]
theorem bAnd_t {p q : EvB} {env e1 : Env'} {r : Option (Bool × Env')} (h : p env = some (true, e1)) (h2 : q e1 = r) : bAnd p q env = r := by
  simp only [bAnd, h, Option.bind_some, if_true, h2]
theorem bAnd_f {p q : EvB} {env e1 : Env'} (h : p env = some (false, e1)) : bAnd p q env = some (false, e1) := by
  simp only [bAnd, h, Option.bind_some, Bool.false_eq_true, if_false]
section
variable {c n X b : Nat} {d R : D} {m : Mat} {s4 s5 s6 s7 : Sl}
theorem last_ok {w : Int} {i j : Nat} (hd : BagOk c d) (hc : c < 2 ^ 64) (hi : i < m.length) (hj : j < m.length) (hm : m.length < 900000) (hn : n ≤ 1000000) (hw : Wd n m) (hX : Le X m) (hXb : X < 2 ^ b) (hb : b + b < 134000000) (h10 : 10 ≤ b) :
    ∃ d' m', BagOk (c + 1) d' ∧ Oth n X m m' ∧ othLast (oe d R n m s4 (.val (.int w)) (.val (.int (i : Nat))) (.val (.int (j : Nat)))) = some (.nx, oe d' R n m' s4 (.val (.int w)) (.val (.int (i : Nat))) (.val (.int (j : Nat)))) := by
  let e0 : Env' := oe d R n m s4 (.val (.int w)) (.val (.int (i : Nat))) (.val (.int (j : Nat)))
  have q1 := eqI_ok (env := e0) (k := 5) (x := w) (y := 1) rfl
  have q2 := eqI_ok (env := e0) (k := 5) (x := w) (y := 2) rfl
  have q3 := eqI_ok (env := e0) (k := 5) (x := w) (y := 3) rfl
  have q4 := neII_ok (env := e0) (k := 6) (l := 7) (x := (i : Nat)) (y := (j : Nat)) rfl rfl
  by_cases w1 : w = 1
  · rw [decide_eq_true w1] at q1
    obtain ⟨m', h1, h2⟩ := neg_ok (d := d) (R := R) (s4 := s4) (s5 := .val (.int w)) (s7 := .val (.int (j : Nat))) hi hn hw hX
    exact ⟨d, m', hd.mono (Nat.le_succ c), h1, xIf_t q1 h2⟩
  · rw [decide_eq_false w1] at q1
    -- behind the second test
    have rest : bAnd (bE (eOp pEq (eVar 5) (eC (.int 2)))) (bE (eOp pNe (eVar 6) (eVar 7))) e0 = some (false, e0) → ∃ d' m', BagOk (c + 1) d' ∧ Oth n X m m' ∧ othLast e0 = some (.nx, oe d' R n m' s4 (.val (.int w)) (.val (.int (i : Nat))) (.val (.int (j : Nat)))) := fun hf => by
      by_cases w3 : w = 3
      · rw [decide_eq_true w3] at q3
        obtain ⟨d', m', h1, h2, h3⟩ := app_ok (R := R) (s4 := s4) (s5 := .val (.int w)) hd hc hi hj hm hn hw hX hXb hb h10
        exact ⟨d', m', h1, h2, xIf_f q1 (xIf_f hf (xIf_t q3 h3))⟩
      · rw [decide_eq_false w3] at q3
        refine ⟨d, m.reverse, hd.mono (Nat.le_succ c), oth_rev hw hX, xIf_f q1 (xIf_f hf (xIf_f q3 ?_))⟩
        have hr : eRev (eVar 3) e0 = some (.fr (matO m.reverse), e0) := by
          show some (Sm.R.fr (.list (m.map rowT).reverse), e0) = _
          unfold matO
          rw [List.map_reverse]
        exact xSet_ok hr rfl (by show 3 < 9; decide)
    by_cases w2 : w = 2
    · rw [decide_eq_true w2] at q2
      by_cases hij : i = j
      · have : ((i : Nat) : Int) = (j : Nat) := by rw [hij]
        rw [decide_eq_true this] at q4
        exact rest (bAnd_t q2 q4)
      · have : ¬ ((i : Nat) : Int) = (j : Nat) := by omega
        rw [decide_eq_false this] at q4
        obtain ⟨d', m', h1, h2, h3⟩ := sum_ok (R := R) (s4 := s4) (s5 := .val (.int w)) hd hc hi hj hij hn hw hX hXb hb h10
        exact ⟨d', m', h1, h2, xIf_f q1 (xIf_t (bAnd_t q2 q4) h3)⟩
    · rw [decide_eq_false w2] at q2
      exact rest (bAnd_f q2)
theorem par_ok (hd : BagOk c d) (hc : c + 1 < 2 ^ 64) (hm : m ≠ []) :
    ∃ d' i j, BagOk (c + 2) d' ∧ i < m.length ∧ j < m.length ∧ othPar (oe d R n m s4 s5 s6 s7) = some (.nx, oe d' R n m s4 s5 (.val (.int (i : Nat))) (.val (.int (j : Nat)))) := by
  have hl : 0 < m.length := List.length_pos_iff.mpr hm
  obtain ⟨v, d1, h1, h2, h3, h4⟩ := take_ok (env := oe d R n m s4 s5 s6 s7) (p := true) (k := (m.length : Nat)) rfl hd (by omega) (by omega) len3
  obtain ⟨i, rfl⟩ : ∃ i : Nat, v = i := ⟨v.toNat, by omega⟩
  obtain ⟨u, d2, g1, g2, g3, g4⟩ := take_ok (env := oe d1 R n m s4 s5 s6 s7) (p := true) (k := (m.length : Nat)) rfl h3 (by omega) (by omega) len3
  obtain ⟨j, rfl⟩ : ∃ j : Nat, u = j := ⟨u.toNat, by omega⟩
  exact ⟨d2, i, j, g3, by omega, by omega, xPar_ok (i := 6) (j := 7) h4 rfl g4 rfl (by decide) (by show 6 < 9; decide) (by show 7 < 9; decide)⟩
theorem oth_turn (hd : BagOk c d) (hc : c + 4 < 2 ^ 64) (hm : m.length < 900000) (hn : n < 1000000) (hw : Wd n m) (hX : Le X m) (hXb : X < 2 ^ b) (hb : b + b < 134000000) (h10 : 10 ≤ b) :
    ∃ d' m' s5' s6' s7' fl, BagOk (c + 4) d' ∧ Oth n X m m' ∧ othB (oe d R n m s4 s5 s6 s7) = some (fl, oe d' R n m' s4 s5' s6' s7') ∧ (fl = .nx ∨ fl = .ct) := by
  obtain ⟨w, d1, h1, h2, h3, h4⟩ := take_ok (env := oe d R n m s4 s5 s6 s7) (p := true) (f := eC (.int 5)) (k := 5) rfl hd (by omega) (by decide) rfl
  have a1 : xSet 5 (eCallM g__law_take (aCons (eVar 0) (aCons (eC (.int 5)) aNil))) (oe d R n m s4 s5 s6 s7) = some (.nx, oe d1 R n m s4 (.val (.int w)) s6 s7) := xSet_ok h4 rfl (by show 5 < 9; decide)
  let e1 : Env' := oe d1 R n m s4 (.val (.int w)) s6 s7
  have q1 := eqI_ok (env := e1) (k := 5) (x := w) (y := 0) rfl
  have q2 : bE (eOp pEq (eVar 3) (eLst aNil)) e1 = some (decide (m = []), e1) := by
    rw [u_bE, eOp_ok (ra := .var 3) (rb := .fr (matO [])) (e1 := e1) rfl rfl rfl rfl (pEq_matO m [])]
    rfl
  obtain ⟨d2, m2, i1, i2, i3⟩ := ins_ok (R := R) (s4 := s4) (s5 := .val (.int w)) (s6 := s6) (s7 := s7) h3 (by omega) hm hn hw hX
  by_cases w0 : w = 0
  · rw [decide_eq_true w0] at q1
    exact ⟨d2, m2, _, _, _, .ct, i1.mono (by omega), i2, xSeq_nx a1 (xSeq_ct (xIf_t (bOr_t q1) i3)), .inr rfl⟩
  · rw [decide_eq_false w0] at q1
    by_cases m0 : m = []
    · rw [decide_eq_true m0] at q2
      exact ⟨d2, m2, _, _, _, .ct, i1.mono (by omega), i2, xSeq_nx a1 (xSeq_ct (xIf_t (bOr_f q1 q2) i3)), .inr rfl⟩
    · rw [decide_eq_false m0] at q2
      obtain ⟨d3, i, j, p1, p2, p3, p4⟩ := par_ok (R := R) (n := n) (s4 := s4) (s5 := .val (.int w)) (s6 := s6) (s7 := s7) h3 (by omega) m0
      obtain ⟨d4, m4, l1, l2, l3⟩ := last_ok (R := R) (s4 := s4) (w := w) p1 (by omega) p2 p3 hm (Nat.le_of_lt hn) hw hX hXb hb h10
      exact ⟨d4, m4, _, _, _, .nx, l1.mono (by omega), l2, xSeq_nx a1 (xSeq_nx (xIf_f (bOr_f q1 q2) rfl) (xSeq_nx p4 l3)), .inl rfl⟩
theorem pow_step {X j : Nat} : 1001 ^ j * X + 1000 * (1001 ^ j * X) = 1001 ^ (j + 1) * X := by
  rw [Nat.pow_succ]
  grind
theorem g_oth_eq (hd : BagOk c d) (hc : c + 100 < 2 ^ 64) (hm : m.length < 800000) (hn : n < 1000000) (hw : Wd n m) (hX : Le X m) (hXb : 1001 ^ 7 * X < 2 ^ b) (hb : b + b < 134000000) (h10 : 10 ≤ b) :
    ∃ d' m', BagOk (c + 40) d' ∧ Wd n m' ∧ m'.length ≤ m.length + 7 ∧ Le (1001 ^ 7 * X) m' ∧ SameL m m' ∧ g__law_otherwise d [matO m, .int (n : Nat)] = some (matO m', d') := by
  let e0 : Env' := [.own true d, .val (matO m), .val (.int (n : Nat)), .no, .no, .no, .no, .no, .no]
  have a1 : xSet 3 (eCb pList (aCons (eVar 1) aNil)) e0 = some (.nx, oe d (matO m) n m .no .no .no .no) := rfl
  obtain ⟨v, d1, h1, h2, h3, h4⟩ := take_ok (env := oe d (matO m) n m .no .no .no .no) (p := true) (f := eC (.int 8)) (k := 8) rfl hd (by omega) (by decide) rfl
  obtain ⟨N, rfl⟩ : ∃ N : Nat, v = N := ⟨v.toNat, by omega⟩
  have hr := rng1 (a := aCons (eCallM g__law_take (aCons (eVar 0) (aCons (eC (.int 8)) aNil))) aNil) (n := N) (aCons_ok h4 u_aNil) (by omega)
  obtain ⟨env', l1, d2, m2, s4, s5, s6, s7, rfl, k1, k2, k3, k4, k5⟩ := for_ok hr (I := fun j env => ∃ d2 m2 s4 s5 s6 s7, env = oe d2 (matO m) n m2 s4 s5 s6 s7 ∧ BagOk (c + 1 + 4 * j) d2 ∧ Wd n m2 ∧ m2.length ≤ m.length + j ∧ Le (1001 ^ j * X) m2 ∧ SameL m m2)
    ⟨d1, m, .no, .no, .no, .no, rfl, h3, hw, Nat.le_refl _, by rw [Nat.pow_zero, Nat.one_mul]; exact hX, SameL.refl m⟩ (g := gN 4) (F := othB) (fun j env dd hI hdd => by
      obtain ⟨d2, m2, s4, s5, s6, s7, rfl, k1, k2, k3, k4, k5⟩ := hI
      have hj : j < N := by
        have := lt_of_get hdd
        rw [List.length_map, List.length_range] at this
        exact this
      rw [List.getElem?_map, List.getElem?_range hj] at hdd
      cases hdd
      have hb2 : 1001 ^ j * X < 2 ^ b := by
        refine Nat.lt_of_le_of_lt (Nat.mul_le_mul_right _ (Nat.pow_le_pow_right (by decide) ?_)) hXb
        omega
      obtain ⟨d3, m3, s5', s6', s7', fl, g1, g2, g3, g4⟩ := oth_turn (R := matO m) (s4 := .val (.int (j : Nat))) (s5 := s5) (s6 := s6) (s7 := s7) k1 (by omega) (by omega) hn k2 k4 hb2 hb h10
      refine ⟨oe d2 (matO m) n m2 (.val (.int (j : Nat))) s5 s6 s7, oe d3 (matO m) n m3 (.val (.int (j : Nat))) s5' s6' s7', rfl, ?_, d3, m3, _, _, _, _, rfl, g1.mono (by omega), g2.wd, by have := g2.len; omega, ?_, k5.trans g2.same⟩
      · rcases g4 with rfl | rfl
        · exact .inl g3
        · exact .inr g3
      · have := g2.le
        rw [pow_step] at this
        exact this)
  have eN : ((List.range N).map fun i => PyData.int ((i : Nat) : Int)).length = N := by rw [List.length_map, List.length_range]
  rw [eN] at k1 k3 k4
  have hF : F__law_otherwise e0 = some (.ret (matO m2), [.own true d2, .val (matO m), .val (.int (n : Nat)), .val (matO m2), s4, s5, s6, s7, .no]) := by
    unfold F__law_otherwise
    exact xSeq_nx a1 (xSeq_nx l1 rfl)
  exact ⟨d2, m2, k1.mono (by omega), k2, by omega, k4.mono (Nat.mul_le_mul_right _ (Nat.pow_le_pow_right (by decide) (by omega))), k5, runM_ok rfl hF rfl⟩
end
end K52
set_option Elab.async false
set_option linter.all false
set_option maxRecDepth 100000
set_option maxHeartbeats 1000000
/-! _law_alike: a datum is alike to itself. -/
namespace K52
open PySem PySem.Spec L2 Sm
mutual
def szD : D → Nat
  | .list ds => 1 + szL ds
  | .tuple ds => 1 + szL ds
  | _ => 1
def szL : List D → Nat
  | [] => 0
  | d :: ds => szD d + szL ds
end
mutual
def okD : D → Prop
  | .int _ => True
  | .bool _ => True
  | .list ds => okL ds
  | .tuple ds => okL ds
  | _ => False
def okL : List D → Prop
  | [] => True
  | d :: ds => okD d ∧ okL ds
end
theorem szL_app : ∀ (a b : List D), szL (a ++ b) = szL a + szL b
  | [], b => by simp [szL]
  | d :: a, b => by simp only [List.cons_append, szL, szL_app a b]; omega
theorem okL_app : ∀ {a b : List D}, okL a → okL b → okL (a ++ b)
  | [], b, _, h => h
  | d :: a, b, h, k => ⟨h.1, okL_app h.2 k⟩
def kids : D → List D
  | .list ds => ds
  | .tuple ds => ds
  | _ => []
theorem kids_sz : ∀ {d : D}, okD d → szD d = 1 + szL (kids d)
  | .int _, _ => rfl
  | .bool _, _ => rfl
  | .list _, _ => rfl
  | .tuple _, _ => rfl
  | .none, h => h.elim
  | .str _, h => h.elim
  | .dict _, h => h.elim
theorem kids_ok : ∀ {d : D}, okD d → okL (kids d)
  | .int _, _ => trivial
  | .bool _, _ => trivial
  | .list _, h => h
  | .tuple _, h => h
  | .none, h => h.elim
  | .str _, h => h.elim
  | .dict _, h => h.elim
def twin (d : D) : D := .tuple [d, d]
theorem ziD_twin : ∀ ds : List D, ziD ds ds = ds.map twin
  | [] => rfl
  | d :: ds => by
    have ih := ziD_twin ds
    unfold ziD at ih ⊢
    rw [List.zip_cons_cons, List.map_cons, ih]
    rfl
noncomputable abbrev alkC : EvB := bE (eOp pLt (eVar 3) (eCb pLen (aCons (eVar 2) aNil)))
noncomputable abbrev alkB : Ex := xSeq (xAsg (gT 2 (gCons (gN 4) (gCons (gN 5) gNil))) (eOp pIx (eVar 2) (eVar 3)))
    (xSeq (xAug 3 (fun i j => i + j) (eC (.int 1)))
    (xSeq (xIf (bOr (bE (eOp pNe (eIsi ["bool"] (eVar 4)) (eIsi ["bool"] (eVar 5)))) (bE (eOp pNe (eIsi ["str"] (eVar 4)) (eIsi ["str"] (eVar 5))))) (xRet (eC (.bool false))) xNx)
    (xSeq (xIf (bE (eOp pNe (eIsi ["tuple", "list"] (eVar 4)) (eIsi ["tuple", "list"] (eVar 5)))) (xRet (eC (.bool false))) xNx)
    (xIf (bV (eIsi ["tuple", "list"] (eVar 4))) (xSeq (xIf (bOr (bE (eOp pNe (eIsi ["tuple"] (eVar 4)) (eIsi ["tuple"] (eVar 5)))) (bE (eOp pNe (eCb pLen (aCons (eVar 4) aNil)) (eCb pLen (aCons (eVar 5) aNil))))) (xRet (eC (.bool false))) xNx)
    (xEx (eMeth 2 pmExtend (aCons (eLz (aCons (eVar 4) (aCons (eVar 5) aNil))) aNil)))) (xIf (bOr (bE (eOp pNe (eIsi ["bool", "int", "str"] (eVar 4)) (eIsi ["bool", "int", "str"] (eVar 5)))) (bE (eOp pNe (eVar 4) (eVar 5)))) (xRet (eC (.bool false))) xNx)))))
abbrev ae (f r : D) (ps : List D) (at' : Int) (s4 s5 : Sl) : Env' := [.val f, .val r, .own false (.list ps), .val (.int at'), s4, s5]
theorem pNe_bool : ∀ a : Bool, pNe (.bool a) (.bool a) = some (.val (.bool false))
  | true => rfl
  | false => rfl
theorem ne_bb {f g : Ev} {env : Env'} {a : Bool} (hf : f env = some (.val (.bool a), env)) (hg : g env = some (.val (.bool a), env)) : bE (eOp pNe f g) env = some (false, env) := by
  rw [u_bE, eOp_ok hf hg rfl rfl (pNe_bool a)]
  rfl
theorem isi_ok {ns : List String} {env : Env'} {k : Nat} {d : D} {a : Bool} (hk : env[k]? = some (.val d)) (h : isiT ns d = some (.val (.bool a))) : eIsi ns (eVar k) env = some (.val (.bool a), env) := by
  rw [u_eIsi, u_eUn, u_eVar, hk]
  simp only [Option.bind_some, u_deref1, h, Option.map_some]
theorem isi_bool : ∀ {d : D}, okD d → ∃ a, isiT ["bool"] d = some (.val (.bool a))
  | .int _, _ => ⟨_, rfl⟩
  | .bool _, _ => ⟨_, rfl⟩
  | .list _, _ => ⟨_, rfl⟩
  | .tuple _, _ => ⟨_, rfl⟩
  | .none, h => h.elim
  | .str _, h => h.elim
  | .dict _, h => h.elim
theorem isi_str : ∀ {d : D}, okD d → ∃ a, isiT ["str"] d = some (.val (.bool a))
  | .int _, _ => ⟨_, rfl⟩
  | .bool _, _ => ⟨_, rfl⟩
  | .list _, _ => ⟨_, rfl⟩
  | .tuple _, _ => ⟨_, rfl⟩
  | .none, h => h.elim
  | .str _, h => h.elim
  | .dict _, h => h.elim
theorem isi_tup : ∀ {d : D}, okD d → ∃ a, isiT ["tuple"] d = some (.val (.bool a))
  | .int _, _ => ⟨_, rfl⟩
  | .bool _, _ => ⟨_, rfl⟩
  | .list _, _ => ⟨_, rfl⟩
  | .tuple _, _ => ⟨_, rfl⟩
  | .none, h => h.elim
  | .str _, h => h.elim
  | .dict _, h => h.elim
theorem isi_leaf : ∀ {d : D}, okD d → ∃ a, isiT ["bool", "int", "str"] d = some (.val (.bool a))
  | .int _, _ => ⟨_, rfl⟩
  | .bool _, _ => ⟨_, rfl⟩
  | .list _, _ => ⟨_, rfl⟩
  | .tuple _, _ => ⟨_, rfl⟩
  | .none, h => h.elim
  | .str _, h => h.elim
  | .dict _, h => h.elim
/-- lists and tuples, or what has no members -/
theorem isi_seq : ∀ {d : D}, okD d → (isiT ["tuple", "list"] d = some (.val (.bool true)) ∧ seqOf d = some (kids d) ∧ pLen [d] = some (.val (.int ((kids d).length : Nat)))) ∨ (isiT ["tuple", "list"] d = some (.val (.bool false)) ∧ kids d = [] ∧ pNe d d = some (.val (.bool false)))
  | .int i, _ => .inr ⟨rfl, rfl, by rw [pNe_int, decide_eq_true rfl]; rfl⟩
  | .bool b, _ => .inr ⟨rfl, rfl, pNe_bool b⟩
  | .list _, _ => .inl ⟨rfl, rfl, rfl⟩
  | .tuple _, _ => .inl ⟨rfl, rfl, rfl⟩
  | .none, h => h.elim
  | .str _, h => h.elim
  | .dict _, h => h.elim
theorem alk_turn {f r d : D} {pre qs : List D} {s4 s5 : Sl} {N : Nat} (hN : N = 1000000) (hd : okD d) (hl : (pre ++ twin d :: qs).length + (kids d).length ≤ N) :
    alkB (ae f r (pre ++ twin d :: qs) (pre.length : Nat) s4 s5) = some (.nx, ae f r ((pre ++ [twin d]) ++ (qs ++ (kids d).map twin)) ((pre ++ [twin d]).length : Nat) (.val d) (.val d)) := by
  let ps := pre ++ twin d :: qs
  let e1 : Env' := ae f r ps (pre.length : Nat) (.val d) (.val d)
  let e2 : Env' := ae f r ps ((pre ++ [twin d]).length : Nat) (.val d) (.val d)
  have t1 : eOp pIx (eVar 2) (eVar 3) (ae f r ps (pre.length : Nat) s4 s5) = some (.val (twin d), ae f r ps (pre.length : Nat) s4 s5) := by
    refine eOp_ok (ra := .var 2) (rb := .val (.int (pre.length : Nat))) (x := .list ps) (y := .int (pre.length : Nat)) (e1 := ae f r ps (pre.length : Nat) s4 s5) rfl rfl rfl rfl ?_
    rw [u_pIxL, atI_get (x := twin d) (by
      show (pre ++ twin d :: qs)[pre.length]? = _
      rw [List.getElem?_append_right (Nat.le_refl _), Nat.sub_self]
      rfl)]
    rfl
  have a1 : xAsg (gT 2 (gCons (gN 4) (gCons (gN 5) gNil))) (eOp pIx (eVar 2) (eVar 3)) (ae f r ps (pre.length : Nat) s4 s5) = some (.nx, e1) := xAsg_ok t1 rfl rfl
  have a2 : xAug 3 (fun i j => i + j) (eC (.int 1)) e1 = some (.nx, e2) := by
    have : ((pre.length : Nat) : Int) + 1 = ((pre ++ [twin d]).length : Nat) := by
      rw [List.length_append, List.length_singleton]
      omega
    show some (Fl.nx, ae f r ps (((pre.length : Nat) : Int) + 1) (.val d) (.val d)) = _
    rw [this]
  obtain ⟨b1, i1⟩ := isi_bool hd
  obtain ⟨b2, i2⟩ := isi_str hd
  obtain ⟨b3, i3⟩ := isi_tup hd
  obtain ⟨b4, i4⟩ := isi_leaf hd
  have k4 : e2[4]? = some (.val d) := rfl
  have k5 : e2[5]? = some (.val d) := rfl
  have a3 := xIf_f (F := xRet (eC (.bool false))) (bOr_f (ne_bb (isi_ok k4 i1) (isi_ok k5 i1)) (ne_bb (isi_ok k4 i2) (isi_ok k5 i2))) u_xNx
  have ef : (pre ++ [twin d]) ++ (qs ++ (kids d).map twin) = ps ++ (kids d).map twin := by
    show _ = (pre ++ twin d :: qs) ++ _
    simp
  rw [ef]
  rcases isi_seq hd with ⟨i5, i6, i7⟩ | ⟨i5, i6, i7⟩
  · have a4 := xIf_f (F := xRet (eC (.bool false))) (ne_bb (isi_ok k4 i5) (isi_ok k5 i5)) u_xNx
    have c5 : bV (eIsi ["tuple", "list"] (eVar 4)) e2 = some (true, e2) := by
      rw [u_bV, isi_ok k4 i5]
      rfl
    have l4 : eCb pLen (aCons (eVar 4) aNil) e2 = some (.val (.int ((kids d).length : Nat)), e2) := eCb_ok (rs := [.val d]) (e1 := e2) (ds := [d]) rfl rfl i7
    have l5 : eCb pLen (aCons (eVar 5) aNil) e2 = some (.val (.int ((kids d).length : Nat)), e2) := eCb_ok (rs := [.val d]) (e1 := e2) (ds := [d]) rfl rfl i7
    have n5 : bE (eOp pNe (eCb pLen (aCons (eVar 4) aNil)) (eCb pLen (aCons (eVar 5) aNil))) e2 = some (false, e2) := by
      rw [u_bE, eOp_ok l4 l5 rfl rfl pNe_int, decide_eq_true rfl]
      rfl
    have a5 := xIf_f (F := xRet (eC (.bool false))) (bOr_f (ne_bb (isi_ok k4 i3) (isi_ok k5 i3)) n5) u_xNx
    have z : eLz (aCons (eVar 4) (aCons (eVar 5) aNil)) e2 = some (.fr (.list ((kids d).map twin)), e2) := by
      have ha : aCons (eVar 4) (aCons (eVar 5) aNil) e2 = some ([.val d, .val d], e2) := rfl
      rw [u_eLz, ha]
      simp only [Option.bind_some, u_frzL1, u_frzL0, u_frz1, Option.map_some, i6]
      rw [if_pos (by rw [List.length_zip, List.length_append] at *; omega), ziD_twin]
    have m : pmExtend ps [.list ((kids d).map twin)] = some (.none, ps ++ (kids d).map twin) := by
      unfold pmExtend
      simp only
      rw [if_pos (by rw [List.length_map]; show (pre ++ twin d :: qs).length + _ ≤ _; omega)]
    have q := eMeth_ok (i := 2) (pm := pmExtend) (p0 := false) (d0 := .list ps) (p := false) (env := e2) (e2 := e2) rfl (aCons_ok z u_aNil) rfl rfl m
    exact xSeq_nx a1 (xSeq_nx a2 (xSeq_nx a3 (xSeq_nx a4 (xIf_t c5 (xSeq_nx a5 (xEx_ok q))))))
  · have a4 := xIf_f (F := xRet (eC (.bool false))) (ne_bb (isi_ok k4 i5) (isi_ok k5 i5)) u_xNx
    have c5 : bV (eIsi ["tuple", "list"] (eVar 4)) e2 = some (false, e2) := by
      rw [u_bV, isi_ok k4 i5]
      rfl
    have n5 : bE (eOp pNe (eVar 4) (eVar 5)) e2 = some (false, e2) := by
      rw [u_bE, eOp_ok (ra := .val d) (rb := .val d) (e1 := e2) rfl rfl rfl rfl i7]
      rfl
    have a5 := xIf_f (F := xRet (eC (.bool false))) (bOr_f (ne_bb (isi_ok k4 i4) (isi_ok k5 i4)) n5) u_xNx
    rw [i6, List.map_nil, List.append_nil]
    exact xSeq_nx a1 (xSeq_nx a2 (xSeq_nx a3 (xSeq_nx a4 (xIf_f c5 a5))))
theorem alk_loop {f r : D} {N : Nat} (hN : N = 1000000) : ∀ (k : Nat) (qs pre : List D) (s4 s5 : Sl), szL qs ≤ k → okL qs → pre.length + szL qs ≤ N → ∃ n e, whileF alkC alkB n (ae f r (pre ++ qs.map twin) (pre.length : Nat) s4 s5) = some (.nx, e) := by
  intro k
  have hcond : ∀ (ps : List D) (j : Nat) (s4 s5 : Sl), alkC (ae f r ps (j : Nat) s4 s5) = some (decide (((j : Nat) : Int) < (ps.length : Nat)), ae f r ps (j : Nat) s4 s5) := fun ps j s4 s5 => by
    have l := eCb_ok (p := pLen) (a := aCons (eVar 2) aNil) (env := ae f r ps (j : Nat) s4 s5) (rs := [.var 2]) (e1 := ae f r ps (j : Nat) s4 s5) (ds := [.list ps]) rfl rfl u_pLenL
    show bE _ _ = _
    rw [u_bE, eOp_ok (ra := .val (.int (j : Nat))) (e1 := ae f r ps (j : Nat) s4 s5) rfl l rfl rfl u_pCmpI]
    rfl
  have fin : ∀ (pre : List D) (s4 s5 : Sl), ∃ n e, whileF alkC alkB n (ae f r (pre ++ ([] : List D).map twin) (pre.length : Nat) s4 s5) = some (.nx, e) := fun pre s4 s5 => by
    refine ⟨1, ae f r (pre ++ ([] : List D).map twin) (pre.length : Nat) s4 s5, ?_⟩
    simp only [whileF, hcond, Option.bind_some]
    rw [decide_eq_false (by rw [List.map_nil, List.append_nil]; omega)]
    rfl
  induction k with
  | zero =>
    intro qs pre s4 s5 h0 hq hl
    cases qs with
    | nil => exact fin pre s4 s5
    | cons d qs =>
      have := kids_sz hq.1
      simp only [szL] at h0
      omega
  | succ k ih =>
    intro qs pre s4 s5 h0 hq hl
    cases qs with
    | nil => exact fin pre s4 s5
    | cons d qs =>
      have hs := kids_sz hq.1
      simp only [szL] at h0 hl
      have lenz : ∀ ds : List D, okL ds → ds.length ≤ szL ds := fun ds => by
        induction ds with
        | nil => intro _; exact Nat.zero_le _
        | cons d ds ih2 =>
          intro h
          have := ih2 h.2
          have := kids_sz h.1
          simp only [szL, List.length_cons]
          omega
      have l1 := lenz qs hq.2
      have l2 := lenz (kids d) (kids_ok hq.1)
      have t := alk_turn (f := f) (r := r) (pre := pre) (qs := qs.map twin) (s4 := s4) (s5 := s5) hN hq.1 (by
        rw [List.length_append, List.length_cons, List.length_map]
        omega)
      rw [← List.map_append] at t
      obtain ⟨n, e, hw⟩ := ih (qs ++ kids d) (pre ++ [twin d]) (.val d) (.val d) (by rw [szL_app]; omega) (okL_app hq.2 (kids_ok hq.1)) (by rw [szL_app, List.length_append, List.length_singleton]; omega)
      refine ⟨n + 1, e, ?_⟩
      rw [List.map_cons]
      simp only [whileF, hcond, Option.bind_some]
      rw [decide_eq_true (by rw [List.length_append, List.length_cons]; omega), if_pos rfl, t]
      exact hw
theorem g_alike_eq {d : D} (hd : okD d) (hs : szD d ≤ 900000) : g__law_alike [d, d] = some (.bool true) := by
  obtain ⟨n, e, hw⟩ := alk_loop (f := d) (r := d) rfl (szL [d]) [d] [] .no .no (Nat.le_refl _) ⟨hd, trivial⟩ (by
    simp only [szL, List.length_nil]
    omega)
  have a1 : xPar 2 3 (eLst (aCons (eTup (aCons (eVar 0) (aCons (eVar 1) aNil))) aNil)) (eC (.int 0)) [.val d, .val d, .no, .no, .no, .no] = some (.nx, ae d d [twin d] 0 .no .no) := rfl
  have a2 : xWhile alkC alkB (ae d d [twin d] 0 .no .no) = some (.nx, e) := xWhile_of hw
  have hF : F__law_alike [.val d, .val d, .no, .no, .no, .no] = some (.ret (.bool true), e) := by
    unfold F__law_alike
    exact xSeq_nx a1 (xSeq_nx a2 rfl)
  exact runP_ok rfl hF
end K52
set_option linter.all false
/-! Echelon rows within the lattice of others: how many, their heads, their size. -/
namespace K52
theorem lat_below {g : Vec} {G : List Vec} {k : Nat} {ks : List Nat} {v : Vec} (e : Ech (g :: G) (k :: ks)) (hv : LatL (g :: G) v) (hz : v k = 0) : LatL G v := by
  obtain ⟨c, w, hw, ew⟩ := lat_cons hv
  have wz : w k = 0 := hw.zero_at fun u hu => e.2.2.1 u hu k (Nat.le_refl _)
  have h1 := congrFun ew k
  simp only [wz, hz] at h1
  have c0 : c = 0 := by
    rcases Int.mul_eq_zero.mp (show c * g k = 0 by omega) with y | y
    · exact y
    · have := e.2.1
      omega
  subst c0
  have e2 : v = w := by
    rw [ew]
    funext j
    grind
  rw [e2]
  exact hw
theorem lat_low {g : Vec} {G : List Vec} {k : Nat} {ks : List Nat} {v : Vec} (e : Ech (g :: G) (k :: ks)) (hv : LatL (g :: G) v) {j : Nat} (hj : j < k) : v j = 0 := hv.zero_at fun u hu => by
  rcases List.mem_cons.mp hu with rfl | hu
  · exact e.1 j hj
  · exact e.2.2.1 u hu j (Nat.le_of_lt hj)
/-- the first head is no further left -/
theorem head_ge {f g : Vec} {F G : List Vec} {h k : Nat} {hs ks : List Nat} (eF : Ech (f :: F) (h :: hs)) (eG : Ech (g :: G) (k :: ks)) (hf : LatL (g :: G) f) : k ≤ h := by
  rcases Nat.lt_or_ge h k with z | z
  · have := lat_low eG hf z
    have := eF.2.1
    omega
  · exact z
theorem ech_sub_len : ∀ {F G : List Vec} {hs ks : List Nat}, Ech F hs → Ech G ks → (∀ f ∈ F, LatL G f) → F.length ≤ G.length
  | [], _, _, _, _, _, _ => Nat.zero_le _
  | f :: F, [], h :: hs, [], eF, _, hl => by
    have := congrFun (lat_nil (hl f List.mem_cons_self)) h
    have := eF.2.1
    omega
  | f :: F, g :: G, h :: hs, k :: ks, eF, eG, hl => by
    have hk := head_ge eF eG (hl f List.mem_cons_self)
    have := ech_sub_len eF.2.2.2 eG.2.2.2 fun f' hf' => lat_below eG (hl f' (List.mem_cons_of_mem _ hf')) (eF.2.2.1 f' hf' k hk)
    simp only [List.length_cons]
    omega
  | _ :: _, _, [], _, eF, _, _ => eF.elim
  | _, [], _, _ :: _, _, eG, _ => eG.elim
  | _, _ :: _, _, [], _, eG, _ => eG.elim
/-- of as many rows: the heads are the same, those of the greater lattice are no greater there, and it is within the other's multiples -/
theorem ech_sub_eq : ∀ {F G : List Vec} {hs ks : List Nat}, Ech F hs → Ech G ks → (∀ f ∈ F, LatL G f) → F.length = G.length →
    hs = ks ∧ (∀ (i : Nat) (f g : Vec) (h : Nat), F[i]? = some f → G[i]? = some g → hs[i]? = some h → g h ≤ f h) ∧ ∃ D : Int, 0 < D ∧ ∀ v, LatL G v → LatL F (fun j => D * v j)
  | [], [], [], [], _, _, _, _ => ⟨rfl, fun i f g h e => by simp at e, 1, by decide, fun v hv => by rw [lat_nil hv]; exact Lat.zero.smul 1⟩
  | f :: F, g :: G, h :: hs, k :: ks, eF, eG, hl, hlen => by
    have hk := head_ge eF eG (hl f List.mem_cons_self)
    have tl : ∀ f' ∈ F, LatL G f' := fun f' hf' => lat_below eG (hl f' (List.mem_cons_of_mem _ hf')) (eF.2.2.1 f' hf' k hk)
    have hkeq : h = k := by
      rcases Nat.lt_or_ge k h with z | z
      · have := ech_sub_len eF eG.2.2.2 fun f' hf' => lat_below eG (hl f' hf') (by
          rcases List.mem_cons.mp hf' with rfl | hf'
          · exact eF.1 k z
          · exact eF.2.2.1 f' hf' k hk)
        simp only [List.length_cons] at this hlen
        omega
      · omega
    subst hkeq
    obtain ⟨e1, e2, D, hD, e3⟩ := ech_sub_eq eF.2.2.2 eG.2.2.2 tl (by simpa using hlen)
    subst e1
    obtain ⟨c, w, hw, ew⟩ := lat_cons (hl f List.mem_cons_self)
    have wz : w h = 0 := hw.zero_at fun u hu => eG.2.2.1 u hu h (Nat.le_refl _)
    have fh : f h = c * g h := by
      have := congrFun ew h
      simp only [wz] at this
      omega
    have cpos : 0 < c := by
      rcases Int.lt_or_le 0 c with z | z
      · exact z
      · have := Int.mul_le_mul_of_nonneg_right z (Int.le_of_lt eG.2.1)
        have := eF.2.1
        omega
    have gle : g h ≤ f h := by
      have : 1 * g h ≤ c * g h := Int.mul_le_mul_of_nonneg_right (by omega) (Int.le_of_lt eG.2.1)
      omega
    refine ⟨rfl, fun i f' g' h' q1 q2 q3 => ?_, D * c, Int.mul_pos hD cpos, fun v hv => ?_⟩
    · cases i with
      | zero =>
        cases q1
        cases q2
        cases q3
        exact gle
      | succ i => exact e2 i f' g' h' (by simpa using q1) (by simpa using q2) (by simpa using q3)
    · obtain ⟨a, u, hu, eu⟩ := lat_cons hv
      -- D * c * g = D * f - D * w
      have l1 : LatL (f :: F) (fun j => D * w j) := lat_tail (e3 w hw)
      have l2 : LatL (f :: F) (fun j => D * u j) := lat_tail (e3 u hu)
      have l3 := ((lat_head (f := f) (F := F)).smul D).sub l1
      have l4 := (l3.smul a).axpy c l2
      have e : (fun j => (fun j => a * (fun j => (fun j => D * f j) j - (fun j => D * w j) j) j) j + c * (fun j => D * u j) j) = fun j => D * c * v j := by
        funext j
        have p1 := congrFun ew j
        have p2 := congrFun eu j
        simp only
        rw [p1, p2]
        grind
      rw [e] at l4
      exact l4
  | [], _ :: _, _, _, _, _, _, hlen => by simp at hlen
  | _ :: _, [], _, _, _, _, _, hlen => by simp at hlen
  | [], _, _ :: _, _, eF, _, _, _ => eF.elim
  | _ :: _, _, [], _, eF, _, _, _ => eF.elim
  | _, [], _, _ :: _, _, eG, _, _ => eG.elim
  | _, _ :: _, _, [], _, eG, _, _ => eG.elim
/-- what is small at the heads is small everywhere -/
theorem head_bound {B : Nat} : ∀ {F : List Vec} {hs : List Nat} {w : Vec} {s : Nat}, Ech F hs → Red F hs → (∀ f ∈ F, ∀ j, (f j).natAbs ≤ B) → LatL F w → (∀ p ∈ F.zip hs, (w p.2).natAbs ≤ s * (p.1 p.2).natAbs) → ∀ j, (w j).natAbs ≤ s * (2 ^ F.length - 1) * B
  | [], [], w, s, _, _, _, hw, _, j => by
    rw [lat_nil hw]
    exact Nat.zero_le _
  | f :: F, h :: hs, w, s, e, r, hB, hw, hb, j => by
    obtain ⟨c, u, hu, ew⟩ := lat_cons hw
    have uz : u h = 0 := hu.zero_at fun x hx => e.2.2.1 x hx h (Nat.le_refl _)
    have fh := e.2.1
    have cb : c.natAbs ≤ s := by
      have h1 := hb (f, h) (by simp)
      have h2 := congrFun ew h
      simp only [uz] at h2
      simp only at h1
      rw [h2, Int.add_zero, Int.natAbs_mul] at h1
      exact Nat.le_of_mul_le_mul_right h1 (by omega)
    have ih := head_bound (w := u) (s := 2 * s) e.2.2.2 r.2 (fun g hg => hB g (List.mem_cons_of_mem _ hg)) hu (fun p hp => by
      have h1 := hb p (by simp [hp])
      have h2 := r.1 p hp
      have h3 := congrFun ew p.2
      have h4 : (c * f p.2).natAbs ≤ s * (p.1 p.2).natAbs := by
        rw [Int.natAbs_mul]
        exact Nat.mul_le_mul cb (by omega)
      have h5 : (u p.2).natAbs ≤ (w p.2).natAbs + (c * f p.2).natAbs := by omega
      rw [Nat.mul_assoc, Nat.two_mul]
      omega) j
    have h6 : (c * f j).natAbs ≤ s * B := by
      rw [Int.natAbs_mul]
      exact Nat.mul_le_mul cb (hB f List.mem_cons_self j)
    have h7 := congrFun ew j
    have h8 : (w j).natAbs ≤ (c * f j).natAbs + (u j).natAbs := by omega
    have h9 : s * (2 ^ (f :: F).length - 1) * B = s * B + 2 * s * (2 ^ F.length - 1) * B := by
      have : 2 ^ (f :: F).length - 1 = 1 + 2 * (2 ^ F.length - 1) := by
        have := Nat.two_pow_pos F.length
        rw [List.length_cons, Nat.pow_succ]
        omega
      rw [this]
      grind
    omega
  | [], _ :: _, _, _, e, _, _, _, _, _ => e.elim
  | _ :: _, [], _, _, e, _, _, _, _, _ => e.elim
/-- the form of a greater lattice with as many rows is hardly greater -/
theorem sat_bound {B : Nat} {F G : List Vec} {hs ks : List Nat} (eF : Ech F hs) (rF : Red F hs) (eG : Ech G ks) (rG : Red G ks) (hl : ∀ f ∈ F, LatL G f) (hlen : F.length = G.length) (hB : ∀ f ∈ F, ∀ j, (f j).natAbs ≤ B) : ∀ g ∈ G, ∀ j, (g j).natAbs ≤ 2 ^ F.length * B := by
  obtain ⟨e1, e2, D, hD, e3⟩ := ech_sub_eq eF eG hl hlen
  subst e1
  intro g hg j
  have b := head_bound (s := D.natAbs) eF rF hB (e3 g (.of hg)) (fun p hp => by
    show (D * g p.2).natAbs ≤ _
    rw [Int.natAbs_mul]
    refine Nat.mul_le_mul_left _ ?_
    obtain ⟨i, hi⟩ := List.getElem?_of_mem hp
    obtain ⟨h1, h2⟩ := List.getElem?_zip_eq_some.mp hi
    have hil : i < F.length := (List.getElem?_eq_some_iff.mp h1).1
    have h3 : G[i]? = some (G[i]'(by omega)) := List.getElem?_eq_getElem (by omega)
    have h4 := e2 i _ _ _ h1 h3 h2
    have f0 := (ech_to eF).2 i _ _ h1 h2
    have g0 := (ech_to eG).2 i _ _ h3 h2
    obtain ⟨i', hi'⟩ := List.getElem?_of_mem hg
    rcases Nat.lt_trichotomy i' i with z | z | z
    · have := red_to rG i' i g _ p.2 z hi' h3 h2
      omega
    · subst z
      rw [h3] at hi'
      cases hi'
      omega
    · have := g0.2.2 i' g z hi' p.2 (Nat.le_refl _)
      omega) j
  have b2 : (D * g j).natAbs ≤ D.natAbs * ((2 ^ F.length - 1) * B) := by
    rw [← Nat.mul_assoc]
    exact b
  rw [Int.natAbs_mul] at b2
  have b3 := Nat.le_of_mul_le_mul_left b2 (by omega)
  exact Nat.le_trans b3 (Nat.mul_le_mul_right _ (Nat.sub_le _ _))
end K52
set_option Elab.async false
set_option linter.all false
set_option maxRecDepth 100000
set_option maxHeartbeats 1000000
/-! The calls of the matrices, told by lattices; the sizes in bits. -/
namespace K52
open PySem PySem.Spec L2 Sm
/-- the plain form of a lattice -/
structure Frm (n : Nat) (P : Vec → Prop) (F : Mat) (hs : List Nat) : Prop where
  ech : Ech (F.map vec) hs
  red : Red (F.map vec) hs
  wd : Wd n F
  iff : ∀ v, LatL (F.map vec) v ↔ P v
theorem frm_inj {n : Nat} {P Q : Vec → Prop} {F F' : Mat} {hs hs' : List Nat} (a : Frm n P F hs) (b : Frm n Q F' hs') (h : ∀ v, P v ↔ Q v) : F = F' ∧ hs = hs' := by
  obtain ⟨e1, e2⟩ := hnf_unique a.ech a.red b.ech b.red fun v => ((a.iff v).trans (h v)).trans (b.iff v).symm
  refine ⟨?_, e2⟩
  have hl : F.length = F'.length := by
    have := congrArg List.length e1
    simpa using this
  apply List.ext_getElem hl
  intro i h1 h2
  apply vec_inj
  · rw [a.wd _ (List.getElem_mem h1), b.wd _ (List.getElem_mem h2)]
  · have e : (F.map vec)[i]? = (F'.map vec)[i]? := by rw [e1]
    rw [List.getElem?_map, List.getElem?_map, List.getElem?_eq_getElem h1, List.getElem?_eq_getElem h2] at e
    exact Option.some.inj e
theorem Hnf.frm {n : Nat} {m F : Mat} {hs : List Nat} (a : Hnf n m F hs) : Frm n (Lat (V m)) F hs := ⟨a.ech, a.red, a.wd, fun v => ⟨fun h => lat_TV.mp (a.from' v h), fun h => a.to v (lat_TV.mpr h)⟩⟩
/-! ### bits -/
def bts : Nat → Nat → Nat
  | 0, k => k
  | j + 1, k => 3 * bts j k + 3
theorem grow_bts {M k : Nat} (h : M ≤ 2 ^ k) : grow M ≤ 2 ^ (3 * k + 3) := by
  unfold grow
  have h1 : M * M * M ≤ 2 ^ k * 2 ^ k * 2 ^ k := Nat.mul_le_mul (Nat.mul_le_mul h h) h
  have e : 2 ^ (3 * k + 3) = 8 * (2 ^ k * 2 ^ k * 2 ^ k) := by
    rw [show 3 * k + 3 = k + k + k + 3 by omega, Nat.pow_add, Nat.pow_add, Nat.pow_add]
    omega
  rw [e]
  omega
theorem growN_bts (k : Nat) : ∀ j, growN j (2 ^ k) ≤ 2 ^ bts j k
  | 0 => Nat.le_refl _
  | j + 1 => grow_bts (growN_bts k j)
theorem bts_mono {i j k : Nat} (h : i ≤ j) : bts i k ≤ bts j k := by
  induction j with
  | zero =>
    have : i = 0 := by omega
    rw [this]
    exact Nat.le_refl _
  | succ j ih =>
    by_cases e : i = j + 1
    · rw [e]
      exact Nat.le_refl _
    · have := ih (by omega)
      simp only [bts]
      omega
theorem bts5 (k : Nat) : bts 5 k = 243 * k + 363 := by
  simp only [bts]
  omega
theorem bts4 (k : Nat) : bts 4 k = 81 * k + 120 := by
  simp only [bts]
  omega
theorem bts3 (k : Nat) : bts 3 k = 27 * k + 39 := by
  simp only [bts]
  omega
theorem pw_one (k : Nat) : 1 ≤ 2 ^ k := Nat.two_pow_pos k
theorem pw_le {i j : Nat} (h : i ≤ j) : 2 ^ i ≤ 2 ^ j := Nat.pow_le_pow_right (by decide) h
theorem pw_lt {i j : Nat} (h : i < j) : 2 ^ i < 2 ^ j := Nat.pow_lt_pow_right (by decide) h
/-- a size of rows, and its products with so many others -/
theorem prod_bts {M g n : Nat} (h : M ≤ 2 ^ g) (hn : n ≤ 5) : M * (1 + M) ^ n ≤ 2 ^ (g + (g + 1) * 5) := by
  have h1 : 1 + M ≤ 2 ^ (g + 1) := by
    have := pw_one g
    rw [Nat.pow_succ]
    omega
  have h2 : (1 + M) ^ n ≤ (2 ^ (g + 1)) ^ 5 := Nat.le_trans (Nat.pow_le_pow_left h1 n) (Nat.pow_le_pow_right (pw_one _) hn)
  rw [← Nat.pow_mul] at h2
  rw [Nat.pow_add]
  exact Nat.mul_le_mul h h2
/-! ### the calls -/
theorem plain_call {d : D} {m : Mat} {n k j : Nat} (hd : MatD m d) (hw : Wd n m) (hn : n ≤ 5) (hm : m.length ≤ 100) (hX : Le (2 ^ k) m) (hk : k ≤ 30000) (hj : min n (m.length - 1) ≤ j) (hj5 : j ≤ 5) :
    ∃ F hs, Frm n (Lat (V m)) F hs ∧ F.length ≤ m.length ∧ Le (2 ^ (bts j k + (bts j k + 1) * 5)) F ∧ g_plain_form [d, .int (n : Nat)] = some (matT F) := by
  have g5 := bts5 k
  have gj : bts j k ≤ bts 5 k := bts_mono hj5
  obtain ⟨b, hb⟩ : ∃ b, b = bts 5 k + (bts 5 k + 1) * 5 + 1 := ⟨_, rfl⟩
  have fb : formB n m.length (2 ^ k) ≤ 2 ^ (bts j k + (bts j k + 1) * 5) := by
    unfold formB
    exact prod_bts (Nat.le_trans (growN_bts k _) (pw_le (bts_mono hj))) hn
  obtain ⟨F, hs, H, sz, e⟩ := g_plain_eq (M := 2 ^ k) (b := b) (G := 5) hd hw (by omega) (by omega) (le_sz.mp hX) (pw_one k) (by omega) (by decide) (Nat.lt_of_le_of_lt (growN_bts k 5) (pw_lt (by omega))) (Nat.lt_of_le_of_lt fb (pw_lt (by omega))) (by omega)
  exact ⟨F, hs, H.frm, H.le, (le_sz.mpr sz).mono fb, e⟩
theorem ker_of {n : Nat} {m m' : Mat} (h : ∀ r ∈ m', Lat (V m) (vec r)) {v : Vec} (hv : Ker n m v) : Ker n m' v :=
  ⟨fun r hr => (h r hr).orth fun u ⟨s, h1, h2⟩ => by rw [h2]; exact hv.1 s h1, hv.2⟩
theorem ker_same {n : Nat} {m m' : Mat} (h : SameL m m') (v : Vec) : Ker n m v ↔ Ker n m' v :=
  ⟨ker_of fun r hr => (h _).mpr (lat_mem hr), ker_of fun r hr => (h _).mp (lat_mem hr)⟩
theorem still_call {d : D} {m : Mat} {n k : Nat} (hd : MatD m d) (hw : Wd n m) (h1 : 1 ≤ n) (hn : n ≤ 5) (hm : m.length ≤ 100) (hX : Le (2 ^ k) m) (hk : k ≤ 30000) :
    ∃ F hs, Frm n (Ker n m) F hs ∧ Le (2 ^ (bts 4 k + (bts 4 k + 1) * 5)) F ∧ g_still_rows [d, .int (n : Nat)] = some (matT F) := by
  have g5 := bts5 k
  have g4 := bts4 k
  obtain ⟨b, hb⟩ : ∃ b, b = bts 5 k + (bts 5 k + 1) * 5 + 1 := ⟨_, rfl⟩
  have fb : growN (n - 1) (2 ^ k) * (1 + growN (n - 1) (2 ^ k)) ^ n ≤ 2 ^ (bts 4 k + (bts 4 k + 1) * 5) := prod_bts (Nat.le_trans (growN_bts k _) (pw_le (bts_mono (by omega)))) hn
  obtain ⟨m', hs, F, hs', U, H, sz, e⟩ := g_still_eq (M := 2 ^ k) (b := b) hd hw (by omega) h1 (le_sz.mp hX) (pw_one k) (Nat.lt_of_le_of_lt (Nat.le_trans (growN_bts k n) (pw_le (bts_mono hn))) (pw_lt (by omega))) (Nat.lt_of_le_of_lt fb (pw_lt (by omega))) (by omega)
  refine ⟨F, hs', ⟨H.ech, H.red, H.wd, fun v => ⟨fun h => (bot_ker U v).mp (H.from' v h), fun h => H.to v ((bot_ker U v).mpr h)⟩⟩, (le_sz.mpr sz).mono fb, e⟩
theorem app_wd {n : Nat} {m : Mat} {r : Row} (hw : Wd n m) (hr : r.length = n) : Wd n (m ++ [r]) := fun x hx => by
  rcases List.mem_append.mp hx with h | h
  · exact hw x h
  · rw [List.mem_singleton.mp h]; exact hr
theorem app_le {X : Nat} {m : Mat} {r : Row} (hX : Le X m) (hr : ∀ x ∈ r, x.natAbs ≤ X) : Le X (m ++ [r]) := fun y hy x hx => by
  rcases List.mem_append.mp hy with h | h
  · exact hX y h x hx
  · rw [List.mem_singleton.mp h] at hx; exact hr x hx
theorem isMade_call {d : D} {m : Mat} {n k : Nat} {r : Row} (hd : seqOf d = some (m.map rowT)) (hw : Wd n m) (hn : n ≤ 5) (hm : m.length ≤ 90) (hX : Le (2 ^ k) m) (hk : k ≤ 30000) (hr : r.length = n) (hrX : ∀ x ∈ r, x.natAbs ≤ 2 ^ k) :
    ∃ b : Bool, g_is_made_of [d, .int (n : Nat), rowT r] = some (.bool b) ∧ (b = true ↔ Lat (V m) (vec r)) := by
  obtain ⟨F, hs, a, _, _, e1⟩ := plain_call (j := 5) (d := d) ⟨rowT, fun r => .inr rfl, hd⟩ hw hn (by omega) hX hk (by omega) (by omega)
  obtain ⟨F', hs', a', _, _, e2⟩ := plain_call (j := 5) (d := .list ((m ++ [r]).map rowT)) ⟨rowT, fun r => .inr rfl, rfl⟩ (app_wd hw hr) hn (by rw [List.length_append, List.length_singleton]; omega) (app_le hX hrX) hk (by omega) (by omega)
  refine ⟨decide (F = F'), g_made_eq hd (by omega) e1 e2, ?_⟩
  rw [decide_eq_true_iff]
  constructor
  · intro h
    have h1 : Lat (V (m ++ [r])) (vec r) := lat_mem (List.mem_append_right _ List.mem_cons_self)
    have h2 := (a'.iff _).mpr h1
    rw [← h] at h2
    exact (a.iff _).mp h2
  · intro h
    refine (frm_inj a a' fun v => ?_).1
    refine (sameL_of (fun x hx => lat_mem (List.mem_append_left _ hx)) fun x hx => ?_) v
    rcases List.mem_append.mp hx with hx | hx
    · exact lat_mem hx
    · rw [List.mem_singleton.mp hx]
      exact h
/-- a form's own rows: its lattice -/
theorem latL_V {F : Mat} (v : Vec) : LatL (F.map vec) v ↔ Lat (V F) v :=
  ⟨fun h => h.mono fun u hu => by
    obtain ⟨r, h1, h2⟩ := List.mem_map.mp hu
    exact .of ⟨r, h1, h2.symm⟩, fun h => h.mono fun u ⟨r, h1, h2⟩ => .of (by rw [h2]; exact List.mem_map_of_mem h1)⟩
theorem vec_supp {n : Nat} {r : Row} (h : r.length = n) : ∀ j, n ≤ j → vec r j = 0 := fun j hj => by
  unfold vec
  rw [List.getD_eq_getElem?_getD, List.getElem?_eq_none (by omega)]
  rfl
theorem vec_le {X : Nat} {r : Row} (h : ∀ x ∈ r, x.natAbs ≤ X) (j : Nat) : (vec r j).natAbs ≤ X := by
  unfold vec
  rw [List.getD_eq_getElem?_getD]
  cases hj : r[j]? with
  | none => exact Nat.zero_le _
  | some x => exact h x (List.mem_of_getElem? hj)
/-- of rows, their form, what they make nothing of, and what that makes nothing of -/
structure Quad (n : Nat) (m F S A : Mat) : Prop where
  r1 : F.length + S.length = n
  r2 : A.length = F.length
  sub : ∀ r ∈ m, LatL (A.map vec) (vec r)
  back : ∀ v, Ker n A v ↔ Ker n m v
  orth : ∀ s ∈ S, ∀ r ∈ m, dotN n (vec s) (vec r) = 0
  size : ∀ B, Le B F → Le (2 ^ F.length * B) A
theorem quad {n : Nat} {m F S A : Mat} {h1 h2 h3 : List Nat} (hw : Wd n m) (a : Frm n (Lat (V m)) F h1) (b : Frm n (Ker n m) S h2) (c : Frm n (Ker n S) A h3) : Quad n m F S A := by
  have sk : ∀ s ∈ S, Ker n m (vec s) := fun s hs => (b.iff _).mp (.of (List.mem_map_of_mem hs))
  have ak : ∀ x ∈ A, Ker n S (vec x) := fun x hx => (c.iff _).mp (.of (List.mem_map_of_mem hx))
  have fl : ∀ f ∈ F, Lat (V m) (vec f) := fun f hf => (a.iff _).mp (.of (List.mem_map_of_mem hf))
  have supp : ∀ {G : Mat}, Wd n G → ∀ g ∈ G.map vec, ∀ j, n ≤ j → g j = 0 := fun {G} hG g hg j hj => by
    obtain ⟨r, hr, rfl⟩ := List.mem_map.mp hg
    exact vec_supp (hG r hr) j hj
  have orth : ∀ s ∈ S, ∀ r ∈ m, dotN n (vec s) (vec r) = 0 := fun s hs r hr => by
    rw [dot_comm]
    exact (sk s hs).1 r hr
  have d1 := dim_law (n := n) a.ech b.ech (supp a.wd) (supp b.wd) (fun f hf g hg => by
    obtain ⟨r, hr, rfl⟩ := List.mem_map.mp hf
    obtain ⟨s, hs, rfl⟩ := List.mem_map.mp hg
    exact (fl r hr).orth fun u ⟨x, hx, e⟩ => by rw [e]; exact (sk s hs).1 x hx) (fun w hz hf => (b.iff w).mpr ⟨fun r hr => ((a.iff _).mpr (lat_mem hr)).orth hf, hz⟩)
  have d2 := dim_law (n := n) b.ech c.ech (supp b.wd) (supp c.wd) (fun f hf g hg => by
    obtain ⟨s, hs, rfl⟩ := List.mem_map.mp hf
    obtain ⟨x, hx, rfl⟩ := List.mem_map.mp hg
    exact (ak x hx).1 s hs) (fun w hz hf => (c.iff w).mpr ⟨fun r hr => hf _ (List.mem_map_of_mem hr), hz⟩)
  rw [List.length_map, List.length_map] at d1 d2
  have sub : ∀ r ∈ m, LatL (A.map vec) (vec r) := fun r hr => (c.iff _).mpr ⟨fun s hs => orth s hs r hr, vec_supp (hw r hr)⟩
  refine ⟨d1, by omega, sub, fun v => ⟨fun hv => ?_, fun hv => ?_⟩, orth, fun B hB x hx y hy => ?_⟩
  · refine ker_of (fun r hr => ?_) hv
    exact (latL_V _).mp (sub r hr)
  · have hs := (b.iff v).mpr hv
    refine ⟨fun x hx => ?_, hv.2⟩
    rw [dot_comm]
    refine hs.orth fun u hu => ?_
    obtain ⟨s, hs, rfl⟩ := List.mem_map.mp hu
    exact (ak x hx).1 s hs
  · have := sat_bound (B := B) a.ech a.red c.ech c.red (fun f hf => by
      obtain ⟨r, hr, rfl⟩ := List.mem_map.mp hf
      exact (fl r hr).mono fun u ⟨x, hx, e⟩ => by rw [e]; exact sub x hx) (by rw [List.length_map, List.length_map]; omega) (fun f hf j => by
      obtain ⟨r, hr, rfl⟩ := List.mem_map.mp hf
      exact vec_le (hB r hr) j) (vec x) (List.mem_map_of_mem hx)
    obtain ⟨j, hj⟩ := List.getElem?_of_mem hy
    have t := this j
    have e : vec x j = y := by
      unfold vec
      rw [List.getD_eq_getElem?_getD, hj]
      rfl
    rw [e, List.length_map] at t
    exact t
/-- the product of two rows -/
theorem dotP_N : ∀ {a b : Row}, a.length = b.length → dotP a b = dotN a.length (vec a) (vec b) := by
  have shift : ∀ (n : Nat) (v w : Vec), dotN (n + 1) v w = v 0 * w 0 + dotN n (fun i => v (i + 1)) (fun i => w (i + 1)) := fun n => by
    induction n with
    | zero => intro v w; simp [dotN]
    | succ n ih2 =>
      intro v w
      show dotN (n + 1) v w + v (n + 1) * w (n + 1) = _
      rw [ih2]
      simp only [dotN]
      omega
  intro a
  induction a with
  | nil => intro b _; rfl
  | cons x a ih =>
    intro b hl
    cases b with
    | nil => simp at hl
    | cons y b =>
      have := ih (b := b) (by simpa using hl)
      rw [List.length_cons, shift]
      unfold dotP at this ⊢
      rw [List.zip_cons_cons, List.map_cons, List.sum_cons, this]
      rfl
end K52
set_option Elab.async false
set_option linter.all false
set_option maxRecDepth 100000
set_option maxHeartbeats 1000000
/-! All that the law asks, of the calls alone. -/
namespace K52
open PySem PySem.Spec L2 Sm
structure Facts (n k : Nat) (rows other F S A : Mat) (hs ks js : List Nat) : Prop where
  p1 : ∀ d, (d = matO rows ∨ d = matT rows) → g_plain_form [d, .int (n : Nat)] = some (matT F)
  p2 : ∀ d, (d = matO other ∨ d = matT other) → g_plain_form [d, .int (n : Nat)] = some (matT F)
  p3 : g_plain_form [matT F, .int (n : Nat)] = some (matT F)
  sh : g__law_shape [matT F, .int (n : Nat)] = some (headL hs)
  md : ∀ r : Row, r.length = n → (∀ x ∈ r, x.natAbs ≤ 2 ^ k) → ∃ b : Bool, g__law_made [matT F, headL hs, rowT r] = some (.bool b) ∧ (b = true ↔ Lat (V rows) (vec r))
  im : ∀ r : Row, r.length = n → (∀ x ∈ r, x.natAbs ≤ 2 ^ k) → ∃ b : Bool, g_is_made_of [matO rows, .int (n : Nat), rowT r] = some (.bool b) ∧ (b = true ↔ Lat (V rows) (vec r))
  im2 : ∀ r ∈ F, g_is_made_of [matO rows, .int (n : Nat), rowT r] = some (.bool true) ∧ g_is_made_of [matT other, .int (n : Nat), rowT r] = some (.bool true)
  fl : F.length ≤ 5
  st : g_still_rows [matO rows, .int (n : Nat)] = some (matT S)
  st2 : g_still_rows [matT other, .int (n : Nat)] = some (matT S)
  st3 : g_still_rows [matT S, .int (n : Nat)] = some (matT A)
  st4 : g_still_rows [matT A, .int (n : Nat)] = some (matT S)
  shS : g__law_shape [matT S, .int (n : Nat)] = some (headL ks)
  shA : g__law_shape [matT A, .int (n : Nat)] = some (headL js)
  lS : S.length + F.length = n
  lA : A.length = F.length
  dot : ∀ s ∈ S, ∀ r ∈ rows, dotP s r = 0 ∧ g_dot [rowT s, rowT r] = some (.int 0) ∧ ∀ p ∈ s.zip r, CMulG p.1 p.2
  mdA : ∀ r ∈ rows, g__law_made [matT A, headL js, rowT r] = some (.bool true)
  lens : ∀ s ∈ S, s.length = n
  lenF : Wd n F
theorem le_bits {X b : Nat} {m : Mat} (h : Le X m) (hb : X < 2 ^ b) {r : Row} (hr : r ∈ m) : Bits b r := fun x hx => Nat.lt_of_le_of_lt (h r hr x hx) hb
theorem madeB_le {k kf b : Nat} {l : Nat} (hl : l ≤ 5) (hb : k + (kf + 1) * 5 < b) : 2 ^ k * (1 + 2 ^ kf) ^ l < 2 ^ b := by
  have h1 : 1 + 2 ^ kf ≤ 2 ^ (kf + 1) := by
    have := pw_one kf
    rw [Nat.pow_succ]
    omega
  have h2 : (1 + 2 ^ kf) ^ l ≤ (2 ^ (kf + 1)) ^ 5 := Nat.le_trans (Nat.pow_le_pow_left h1 l) (Nat.pow_le_pow_right (pw_one _) hl)
  rw [← Nat.pow_mul] at h2
  refine Nat.lt_of_le_of_lt (Nat.mul_le_mul_left _ h2) ?_
  rw [← Nat.pow_add]
  exact pw_lt hb
theorem law_facts {n k0 k1 k : Nat} {rows other : Mat} (h2 : 2 ≤ n) (h5 : n ≤ 5) (hw : Wd n rows) (hr4 : rows.length ≤ 4) (hX : Le (2 ^ k0) rows) (hk0 : k0 = 60) (hw' : Wd n other) (hr11 : other.length ≤ 11) (hX' : Le (2 ^ k1) other) (hk1 : k1 ≤ 200) (hk : k = 200) (hsame : SameL rows other) :
    ∃ F S A hs ks js, Facts n k rows other F S A hs ks js := by
  -- the form
  obtain ⟨kf, hkf⟩ : ∃ kf, kf = bts 3 k0 + (bts 3 k0 + 1) * 5 := ⟨_, rfl⟩
  have b3 := bts3 k0
  have hkf2 : kf ≤ 10000 := by omega
  obtain ⟨F, hs, a, aF, lF, e1⟩ := plain_call (j := 3) (d := matO rows) ⟨rowT, fun r => .inr rfl, rfl⟩ hw h5 (by omega) hX (by omega) (by omega) (by decide)
  obtain ⟨F1, hs1, a1, _, _, e2⟩ := plain_call (j := 3) (d := matT rows) ⟨rowT, fun r => .inr rfl, rfl⟩ hw h5 (by omega) hX (by omega) (by omega) (by decide)
  obtain ⟨F2, hs2, a2, _, _, e3⟩ := plain_call (j := 5) (d := matO other) ⟨rowT, fun r => .inr rfl, rfl⟩ hw' h5 (by omega) hX' (by omega) (by omega) (by decide)
  obtain ⟨F3, hs3, a3, _, _, e4⟩ := plain_call (j := 5) (d := matT other) ⟨rowT, fun r => .inr rfl, rfl⟩ hw' h5 (by omega) hX' (by omega) (by omega) (by decide)
  rw [← hkf] at lF
  obtain ⟨F4, hs4, a4, _, _, e5⟩ := plain_call (j := 5) (d := matT F) ⟨rowT, fun r => .inr rfl, rfl⟩ a.wd h5 (by omega) lF (by omega) (by omega) (by decide)
  obtain ⟨q1, _⟩ := frm_inj a1 a fun v => Iff.rfl
  obtain ⟨q2, _⟩ := frm_inj a2 a fun v => (hsame v).symm
  obtain ⟨q3, _⟩ := frm_inj a3 a fun v => (hsame v).symm
  obtain ⟨q4, _⟩ := frm_inj a4 a fun v => (latL_V v).symm.trans (a.iff v)
  subst q1 q2 q3 q4
  -- what they make nothing of
  obtain ⟨ks0, hks0⟩ : ∃ ks0, ks0 = bts 4 k0 + (bts 4 k0 + 1) * 5 := ⟨_, rfl⟩
  have b4 := bts4 k0
  obtain ⟨S, ks, s1, lS, f1⟩ := still_call (d := matO rows) ⟨rowT, fun r => .inr rfl, rfl⟩ hw (by omega) h5 (by omega) hX (by omega)
  rw [← hks0] at lS
  obtain ⟨S2, ks2, s2, _, f2⟩ := still_call (d := matT other) ⟨rowT, fun r => .inr rfl, rfl⟩ hw' (by omega) h5 (by omega) hX' (by omega)
  obtain ⟨q5, _⟩ := frm_inj s2 s1 fun v => (ker_same hsame v).symm
  subst q5
  have lenS : S2.length ≤ 5 := by
    have := (ech_pairs s1.ech).1
    have h3 := ech_heads (a := 0) s1.ech (fun _ _ => Nat.zero_le _) (ech_lt s1.ech s1.wd) (Nat.zero_le _)
    omega
  obtain ⟨A, js, s3, _, f3⟩ := still_call (d := matT S2) ⟨rowT, fun r => .inr rfl, rfl⟩ s1.wd (by omega) h5 (by omega) lS (by omega)
  have Q := quad hw a s1 s3
  have lA := Q.size _ lF
  have hfl : F4.length ≤ 5 := by omega
  have lA2 : Le (2 ^ (kf + 5)) A := lA.mono (by
    rw [Nat.add_comm, Nat.pow_add]
    exact Nat.mul_le_mul_right _ (pw_le hfl))
  obtain ⟨S3, ks3, s4, _, f4⟩ := still_call (d := matT A) ⟨rowT, fun r => .inr rfl, rfl⟩ s3.wd (by omega) h5 (by have := Q.r2; omega) lA2 (by omega)
  obtain ⟨q6, _⟩ := frm_inj s4 s1 fun v => Q.back v
  subst q6
  obtain ⟨b, hb⟩ : ∃ b, b = 60000 := ⟨_, rfl⟩
  have hAl : A.length ≤ 5 := by have := Q.r2; omega
  refine ⟨F4, S3, A, hs, ks, js, ⟨?_, ?_, e5, g_lawshape_eq (by omega) (by omega) a.ech a.red a.wd, fun r hr hrx => ?_, fun r hr hrx => ?_, fun r hr => ?_, hfl, f1, f2, f3, f4, g_lawshape_eq (by omega) (by omega) s1.ech s1.red s1.wd, g_lawshape_eq (by omega) (by omega) s3.ech s3.red s3.wd, by have := Q.r1; omega, Q.r2, fun s hs' r hr => ?_, fun r hr => ?_, s1.wd, a.wd⟩⟩
  · rintro d (rfl | rfl)
    · exact e1
    · exact e2
  · rintro d (rfl | rfl)
    · exact e3
    · exact e4
  · obtain ⟨ans, g1, g2⟩ := g_lawmade_eq (n := n) (M := 2 ^ kf) (b := b) (X := 2 ^ k) (v := r) (by omega) (pw_lt (by omega)) (by omega) a.ech a.wd hr lF hrx (madeB_le hfl (by omega))
    exact ⟨ans, g1, g2.trans (a.iff _)⟩
  · exact isMade_call rfl hw h5 (by omega) (hX.mono (pw_le (by omega))) (by omega) hr hrx
  · have hrl := a.wd r hr
    have hin : Lat (V rows) (vec r) := (a.iff _).mp (.of (List.mem_map_of_mem hr))
    obtain ⟨b1, g1, g2⟩ := isMade_call (d := matO rows) (k := 10000) rfl hw h5 (by omega) (hX.mono (pw_le (by omega))) (by omega) hrl (fun x hx => Nat.le_trans (lF r hr x hx) (pw_le hkf2))
    obtain ⟨b2, g3, g4⟩ := isMade_call (d := matT other) (k := 10000) rfl hw' h5 (by omega) (hX'.mono (pw_le (by omega))) (by omega) hrl (fun x hx => Nat.le_trans (lF r hr x hx) (pw_le hkf2))
    rw [g1, g3, g2.mpr hin, g4.mpr ((hsame _).mp hin)]
    exact ⟨rfl, rfl⟩
  · have hsl := s1.wd s hs'
    have hrl := hw r hr
    have z : dotP s r = 0 := by
      rw [dotP_N (by rw [hsl, hrl]), hsl]
      exact Q.orth s hs' r hr
    have bs : Bits (ks0 + 1) s := le_bits lS (pw_lt (by omega)) hs'
    have br : Bits (k0 + 1) r := le_bits hX (pw_lt (by omega)) hr
    refine ⟨z, ?_, fun p hp => mulG (bs p.1 (List.of_mem_zip hp).1) (br p.2 (List.of_mem_zip hp).2) (by omega)⟩
    rw [g_dot_eq (.inr rfl) (.inr rfl) bs br (by omega) (by omega), z]
  · obtain ⟨ans, g1, g2⟩ := g_lawmade_eq (n := n) (M := 2 ^ (kf + 5)) (b := b) (X := 2 ^ k0) (v := r) (by omega) (pw_lt (by omega)) (by omega) s3.ech s3.wd (hw r hr) lA2 (hX r hr) (madeB_le hAl (by omega))
    rw [g1, g2.mpr (Q.sub r hr)]
end K52
set_option Elab.async false
set_option linter.all false
set_option maxRecDepth 100000
set_option maxHeartbeats 1000000
/-! The law: its first four rows. -/
namespace K52
open PySem PySem.Spec L2 Sm
noncomputable abbrev W1 : Ex := xSet 1 (eCallF g__law_bag 0)
noncomputable abbrev W2 : Ex := xSet 2 (eOp pAdd (eC (.int 2)) (eCallM g__law_take (aCons (eVar 1) (aCons (eC (.int 4)) aNil))))
noncomputable abbrev W3 : Ex := xSet 3 (eLc [9] (lRng1 (aCons (eCallM g__law_take (aCons (eVar 1) (aCons (eC (.int 5)) aNil))) aNil)) (gN 9) bYes (eCb pTuple (aCons (eLc [9] (lRng1 (aCons (eVar 2) aNil)) (gN 9) bYes (eCallM g__law_number (aCons (eVar 1) aNil))) aNil)))
noncomputable abbrev W4 : Ex := xSet 4 (eCallM g__law_otherwise (aCons (eVar 1) (aCons (eVar 3) (aCons (eVar 2) aNil))))
noncomputable abbrev W5 : Ex := xSet 5 (eCall g_plain_form (aCons (eIf (bE (eOp pEq (eCallM g__law_take (aCons (eVar 1) (aCons (eC (.int 2)) aNil))) (eC (.int 0)))) (eCb pList (aCons (eVar 3) aNil)) (eCb pTuple (aCons (eVar 3) aNil))) (aCons (eVar 2) aNil)))
noncomputable abbrev W6 : Ex := xSet 6 (eCall g__law_shape (aCons (eVar 5) (aCons (eVar 2) aNil)))
noncomputable abbrev W7 : Ex := xIf (bOr (bE (eOp pIs (eVar 6) (eC .none))) (bNot (bV (eIsi ["tuple"] (eVar 5))))) (xRet (eC (.bool false))) xNx
noncomputable abbrev W8 : Ex := xSet 7 (eLst (aCons (eCall g_plain_form (aCons (eCb pList (aCons (eVar 4) aNil)) (aCons (eVar 2) aNil))) (aCons (eCall g_plain_form (aCons (eCb pTuple (aCons (eVar 4) aNil)) (aCons (eVar 2) aNil))) (aCons (eCall g_plain_form (aCons (eVar 5) (aCons (eVar 2) aNil))) aNil))))
noncomputable abbrev W9 : Ex := xSet 7 (eOp pAdd (eVar 7) (eLst (aCons (eCall g_rank (aCons (eCb pList (aCons (eVar 3) aNil)) (aCons (eVar 2) aNil))) (aCons (eCall g_rank (aCons (eCb pTuple (aCons (eVar 4) aNil)) (aCons (eVar 2) aNil))) aNil))))
noncomputable abbrev W10 : Ex := xIf (bNot (bV (eCall g__law_alike (aCons (eVar 7) (aCons (eOp pAdd (eOp pMul (eLst (aCons (eVar 5) aNil)) (eC (.int 3))) (eOp pMul (eLst (aCons (eCb pLen (aCons (eVar 5) aNil)) aNil)) (eC (.int 2)))) aNil))))) (xRet (eC (.bool false))) xNx
noncomputable abbrev W11 : Ex := xFor (lSeq (eOp pAdd (eVar 3) (eVar 4))) (gN 8) (xIf (bNot (bV (eCall g__law_made (aCons (eVar 5) (aCons (eVar 6) (aCons (eVar 8) aNil)))))) (xRet (eC (.bool false))) xNx)
noncomputable abbrev W12 : Ex := xFor (lSeq (eVar 5)) (gN 8) (xIf (bOr (bE (eOp pIsNot (eCall g_is_made_of (aCons (eCb pList (aCons (eVar 3) aNil)) (aCons (eVar 2) (aCons (eVar 8) aNil)))) (eC (.bool true)))) (bE (eOp pIsNot (eCall g_is_made_of (aCons (eCb pTuple (aCons (eVar 4) aNil)) (aCons (eVar 2) (aCons (eVar 8) aNil)))) (eC (.bool true))))) (xRet (eC (.bool false))) xNx)
noncomputable abbrev W13 : Ex := xFor (lRng1 (aCons (eC (.int 5)) aNil)) (gN 9) (xSeq (xSet 8 (eCb pTuple (aCons (eOp pMul (eLst (aCons (eC (.int 0)) aNil)) (eVar 2)) aNil))) (xSeq (xFor (lSeq (eVar 4)) (gN 10) (xSet 8 (eCall g__law_sum (aCons (eVar 8) (aCons (eVar 10) (aCons (eCallM g__law_some (aCons (eVar 1) (aCons (eLst (aCons (eC (.int 0)) (aCons (eC (.int 1)) (aCons (eUn pNeg (eC (.int 1))) (aCons (eC (.int 3)) aNil))))) aNil))) aNil)))))) (xSeq (xIf (bE (eOp pEq (eCallM g__law_take (aCons (eVar 1) (aCons (eC (.int 2)) aNil))) (eC (.int 0)))) (xSeq (xSet 11 (eCallM g__law_take (aCons (eVar 1) (aCons (eVar 2) aNil)))) (xSet 8 (eOp pAdd (eOp pAdd (eSl (eVar 8) oNone (oSome (eVar 11))) (eTup (aCons (eOp pAdd (eOp pIx (eVar 8) (eVar 11)) (eCallM g__law_some (aCons (eVar 1) (aCons (eLst (aCons (eC (.int 1)) (aCons (eUn pNeg (eC (.int 1))) (aCons (eC (.int 2)) aNil)))) aNil)))) aNil))) (eSl (eVar 8) (oSome (eOp pAdd (eVar 11) (eC (.int 1)))) oNone)))) xNx) (xIf (bNot (bV (eCall g__law_alike (aCons (eCall g_is_made_of (aCons (eCb pList (aCons (eVar 3) aNil)) (aCons (eVar 2) (aCons (eVar 8) aNil)))) (aCons (eCall g__law_made (aCons (eVar 5) (aCons (eVar 6) (aCons (eVar 8) aNil)))) aNil))))) (xRet (eC (.bool false))) xNx))))
noncomputable abbrev W14 : Ex := xSet 12 (eCall g_still_rows (aCons (eCb pList (aCons (eVar 3) aNil)) (aCons (eVar 2) aNil)))
noncomputable abbrev W15 : Ex := xSet 13 (eCall g_still_rows (aCons (eVar 12) (aCons (eVar 2) aNil)))
noncomputable abbrev W16 : Ex := xIf (bOr (bE (eOp pIs (eCall g__law_shape (aCons (eVar 12) (aCons (eVar 2) aNil))) (eC .none))) (bOr (bE (eOp pNe (eCb pLen (aCons (eVar 12) aNil)) (eOp pSub (eVar 2) (eCb pLen (aCons (eVar 5) aNil))))) (bE (eOp pNe (eCb pLen (aCons (eVar 13) aNil)) (eCb pLen (aCons (eVar 5) aNil)))))) (xRet (eC (.bool false))) xNx
noncomputable abbrev W17 : Ex := xFor (lSeq (eVar 12)) (gN 8) (xFor (lSeq (eVar 3)) (gN 10) (xSeq (xSet 14 (eCb pSum (aCons (eLc [15, 16] (lZi (aCons (eVar 8) (aCons (eVar 10) aNil))) (gT 2 (gCons (gN 15) (gCons (gN 16) gNil))) bYes (eOp pMul (eVar 15) (eVar 16))) aNil))) (xIf (bOr (bE (eOp pNe (eVar 14) (eC (.int 0)))) (bNot (bV (eCall g__law_alike (aCons (eCall g_dot (aCons (eVar 8) (aCons (eVar 10) aNil))) (aCons (eVar 14) aNil)))))) (xRet (eC (.bool false))) xNx)))
noncomputable abbrev W18 : Ex := xSet 6 (eCall g__law_shape (aCons (eVar 13) (aCons (eVar 2) aNil)))
noncomputable abbrev W19 : Ex := xIf (bOr (bE (eOp pIs (eVar 6) (eC .none))) (bE (eOp pNe (eLc [8] (lSeq (eVar 3)) (gN 8) (bNot (bV (eCall g__law_made (aCons (eVar 13) (aCons (eVar 6) (aCons (eVar 8) aNil)))))) (eVar 8)) (eLst aNil)))) (xRet (eC (.bool false))) xNx
noncomputable abbrev W20 : Ex := xRet (eCall g__law_alike (aCons (eLst (aCons (eCall g_still_rows (aCons (eCb pTuple (aCons (eVar 4) aNil)) (aCons (eVar 2) aNil))) (aCons (eCall g_still_rows (aCons (eVar 13) (aCons (eVar 2) aNil))) aNil))) (aCons (eLst (aCons (eVar 12) (aCons (eVar 12) aNil))) aNil)))
theorem F_law_parts : F_law = xSeq W1 (xSeq W2 (xSeq W3 (xSeq W4 (xSeq W5 (xSeq W6 (xSeq W7 (xSeq W8 (xSeq W9 (xSeq W10 (xSeq W11 (xSeq W12 (xSeq W13 (xSeq W14 (xSeq W15 (xSeq W16 (xSeq W17 (xSeq W18 (xSeq W19 W20)))))))))))))))))) := rfl
abbrev lw (ns : List Int) (d : D) (n : Nat) (s3 s4 s5 s6 s7 s8 s9 s10 s11 s12 s13 s14 : Sl) : Env' := [.scr ns, .own false d, .val (.int (n : Nat)), s3, s4, s5, s6, s7, s8, s9, s10, s11, s12, s13, s14, .no, .no]
/-- a comprehension that changes things on its way -/
theorem lcF_inv {g : Tg} {c : EvB} {f : Ev} {vs : List Nat} (I : Nat → Env' → Prop) (Pd : D → Prop) : ∀ (ds : List D) (k : Nat) (env : Env'), I k env → (∀ j env d, ds[j]? = some d → I (k + j) env → ∃ e1 e2 r e3 d' e4, g d env = some e1 ∧ c e1 = some (true, e2) ∧ f e2 = some (r, e3) ∧ frz e3 r = some (d', e4) ∧ Pd d' ∧ I (k + j + 1) (wipeE e4 vs)) →
    ∃ out env', lcF g c f vs ds env = some (out, env') ∧ out.length = ds.length ∧ (∀ x ∈ out, Pd x) ∧ I (k + ds.length) env'
  | [], k, env, h, _ => ⟨[], env, rfl, rfl, (fun x hx => absurd hx (by simp)), h⟩
  | d :: ds, k, env, h, hs => by
    obtain ⟨e1, e2, r, e3, d', e4, h1, h2, h3, h4, h5, h6⟩ := hs 0 env d rfl h
    obtain ⟨out, env', g1, g2, g3, g4⟩ := lcF_inv I Pd ds (k + 1) (wipeE e4 vs) h6 fun j env d hd hI => by
      have := hs (j + 1) env d hd (by rw [show k + (j + 1) = k + 1 + j by omega]; exact hI)
      rw [show k + (j + 1) + 1 = k + 1 + j + 1 by omega] at this
      exact this
    refine ⟨d' :: out, env', ?_, by simp [g2], fun x hx => ?_, by rw [List.length_cons, show k + (ds.length + 1) = k + 1 + ds.length by omega]; exact g4⟩
    · simp only [lcF, h1, h2, h3, h4, g1, Option.bind_some, if_true, Option.map_some]
    · rcases List.mem_cons.mp hx with rfl | hx
      · exact h5
      · exact g3 x hx
theorem takeS_ok {env : Env'} {c s : Nat} {d : D} {p : Bool} {f : Ev} {k : Int} (h0 : env[s]? = some (.own p d)) (hd : BagOk c d) (hc : c < 2 ^ 64) (hk : 0 < k) (hf : f env = some (.val (.int k), env)) :
    ∃ v d', 0 ≤ v ∧ v < k ∧ BagOk (c + 1) d' ∧ eCallM g__law_take (aCons (eVar s) (aCons f aNil)) env = some (.val (.int v), env.set s (.own p d')) := by
  obtain ⟨v, d', h1, h2, h3, h4⟩ := g_take_eq hd hc hk
  refine ⟨v, d', h1, h2, h3, eCallM_ok (e1 := env) (e2 := env) (i := s) (rs := [.val (.int k)]) (ds := [.int k]) ?_ rfl h0 h4⟩
  exact aCons_ok (r := .var s) (e1 := env) (by simp [h0]) (aCons_ok hf u_aNil)
theorem someS_ok {env : Env'} {c s : Nat} {d : D} {p : Bool} {f : Ev} {ts : Row} (h0 : env[s]? = some (.own p d)) (hd : BagOk c d) (hc : c < 2 ^ 64) (hts : ts ≠ []) (hf : f env = some (.fr (rowL ts), env)) :
    ∃ t d', t ∈ ts ∧ BagOk (c + 1) d' ∧ eCallM g__law_some (aCons (eVar s) (aCons f aNil)) env = some (.val (.int t), env.set s (.own p d')) := by
  obtain ⟨x, d', h1, h2, h3⟩ := g_some_eq (ds := ts.map PyData.int) hd hc (by simpa using hts)
  obtain ⟨t, ht, rfl⟩ := List.mem_map.mp h1
  refine ⟨t, d', ht, h2, eCallM_ok (e1 := env) (e2 := env) (i := s) (rs := [.val (rowL ts)]) (ds := [rowL ts]) ?_ rfl h0 h3⟩
  exact aCons_ok (r := .var s) (e1 := env) (by simp [h0]) (aCons_ok hf u_aNil)
theorem numS_ok {env : Env'} {c s : Nat} {d : D} {p : Bool} (h0 : env[s]? = some (.own p d)) (hd : BagOk c d) (hc : c + 2 < 2 ^ 64) :
    ∃ (x : Int) (d' : D), x.natAbs ≤ 10 ^ 18 ∧ BagOk (c + 3) d' ∧ eCallM g__law_number (aCons (eVar s) aNil) env = some (.val (.int x), env.set s (.own p d')) := by
  obtain ⟨x, d', h1, h2, h3⟩ := g_number_eq hd hc
  refine ⟨x, d', h1, h2, eCallM_ok (e1 := env) (e2 := env) (i := s) (rs := []) (ds := []) ?_ rfl h0 h3⟩
  exact aCons_ok (r := .var s) (e1 := env) (by simp [h0]) u_aNil
theorem ints_of {out : List D} {P : Int → Prop} (h : ∀ x ∈ out, ∃ i, x = .int i ∧ P i) : ∃ r : Row, out = r.map PyData.int ∧ ∀ x ∈ r, P x := by
  induction out with
  | nil => exact ⟨[], rfl, fun x hx => by cases hx⟩
  | cons d out ih =>
    obtain ⟨r, e, h2⟩ := ih fun x hx => h x (List.mem_cons_of_mem _ hx)
    obtain ⟨i, e1, h1⟩ := h d List.mem_cons_self
    refine ⟨i :: r, by rw [e, e1]; rfl, fun x hx => ?_⟩
    rcases List.mem_cons.mp hx with rfl | hx
    · exact h1
    · exact h2 x hx
theorem rows_of {out : List D} {P : Row → Prop} (h : ∀ x ∈ out, ∃ r, x = rowT r ∧ P r) : ∃ m : Mat, out = m.map rowT ∧ ∀ r ∈ m, P r := by
  induction out with
  | nil => exact ⟨[], rfl, fun x hx => by cases hx⟩
  | cons d out ih =>
    obtain ⟨r, e, h2⟩ := ih fun x hx => h x (List.mem_cons_of_mem _ hx)
    obtain ⟨i, e1, h1⟩ := h d List.mem_cons_self
    refine ⟨i :: r, by rw [e, e1]; rfl, fun x hx => ?_⟩
    rcases List.mem_cons.mp hx with rfl | hx
    · exact h1
    · exact h2 x hx
section
variable {ns : List Int} {c n : Nat} {d : D} {s3 s4 s5 s6 s7 s8 s9 s10 s11 s12 s13 s14 : Sl}
theorem row_ok (hd : BagOk c d) (hc : c + 3 * n + 3 < 2 ^ 64) (hn : n < 1000000) :
    ∃ r d', r.length = n ∧ (∀ x ∈ r, x.natAbs ≤ 10 ^ 18) ∧ BagOk (c + 3 * n) d' ∧ eLc [9] (lRng1 (aCons (eVar 2) aNil)) (gN 9) bYes (eCallM g__law_number (aCons (eVar 1) aNil)) (lw ns d n s3 s4 s5 s6 s7 s8 s9 s10 s11 s12 s13 s14) = some (.fr (rowL r), lw ns d' n s3 s4 s5 s6 s7 s8 .no s10 s11 s12 s13 s14) := by
  have hr := rng1 (a := aCons (eVar 2) aNil) (env := lw ns d n s3 s4 s5 s6 s7 s8 s9 s10 s11 s12 s13 s14) (e := lw ns d n s3 s4 s5 s6 s7 s8 s9 s10 s11 s12 s13 s14) (n := n) rfl hn
  obtain ⟨out, env', h1, h2, h3, d', rfl, h4⟩ := lcF_inv (g := gN 9) (c := bYes) (f := eCallM g__law_number (aCons (eVar 1) aNil)) (vs := [9]) (fun j env => ∃ d', env = lw ns d' n s3 s4 s5 s6 s7 s8 .no s10 s11 s12 s13 s14 ∧ BagOk (c + 3 * j) d') (fun x => ∃ i : Int, x = .int i ∧ i.natAbs ≤ 10 ^ 18)
    ((List.range n).map fun i => PyData.int ((i : Nat) : Int)) 0 _ ⟨d, rfl, hd⟩ fun j env dd hdd hI => by
      obtain ⟨d1, rfl, k1⟩ := hI
      rw [Nat.zero_add] at k1 ⊢
      have hj := lt_of_get hdd
      rw [List.length_map, List.length_range] at hj
      rw [List.getElem?_map, List.getElem?_range hj] at hdd
      cases hdd
      obtain ⟨x, d2, g1, g2, g3⟩ := numS_ok (env := lw ns d1 n s3 s4 s5 s6 s7 s8 (.val (.int (j : Nat))) s10 s11 s12 s13 s14) (s := 1) (p := false) rfl k1 (by omega)
      exact ⟨_, _, _, _, _, _, rfl, rfl, g3, rfl, ⟨x, rfl, g1⟩, d2, rfl, g2.mono (by omega)⟩
  rw [List.length_map, List.length_range] at h2 h4
  obtain ⟨r, rfl, hP⟩ := ints_of h3
  rw [List.length_map] at h2
  exact ⟨r, d', h2, hP, h4.mono (by omega), eLc_ok hr rfl h1 (by rw [List.length_map]; omega)⟩
theorem W3_ok (hd : BagOk c d) (hc : c + 1000 < 2 ^ 64) (hn : n ≤ 5) :
    ∃ rows d', Wd n rows ∧ rows.length ≤ 4 ∧ Le (10 ^ 18) rows ∧ BagOk (c + 100) d' ∧ W3 (lw ns d n .no .no .no .no .no .no .no .no .no .no .no .no) = some (.nx, lw ns d' n (.own false (matO rows)) .no .no .no .no .no .no .no .no .no .no .no) := by
  obtain ⟨v, d1, v1, v2, v3, v4⟩ := takeS_ok (env := lw ns d n .no .no .no .no .no .no .no .no .no .no .no .no) (s := 1) (p := false) (f := eC (.int 5)) (k := 5) rfl hd (by omega) (by decide) rfl
  obtain ⟨N, rfl⟩ : ∃ N : Nat, v = N := ⟨v.toNat, by omega⟩
  have hr := rng1 (a := aCons (eCallM g__law_take (aCons (eVar 1) (aCons (eC (.int 5)) aNil))) aNil) (n := N) (aCons_ok v4 u_aNil) (by omega)
  obtain ⟨out, env', h1, h2, h3, d', rfl, h4⟩ := lcF_inv (g := gN 9) (c := bYes) (f := eCb pTuple (aCons (eLc [9] (lRng1 (aCons (eVar 2) aNil)) (gN 9) bYes (eCallM g__law_number (aCons (eVar 1) aNil))) aNil)) (vs := [9]) (fun j env => ∃ d', env = lw ns d' n .no .no .no .no .no .no .no .no .no .no .no .no ∧ BagOk (c + 1 + 15 * j) d') (fun x => ∃ r : Row, x = rowT r ∧ r.length = n ∧ ∀ x ∈ r, x.natAbs ≤ 10 ^ 18)
    ((List.range N).map fun i => PyData.int ((i : Nat) : Int)) 0 _ ⟨d1, rfl, v3⟩ fun j env dd hdd hI => by
      obtain ⟨d2, rfl, k1⟩ := hI
      rw [Nat.zero_add] at k1 ⊢
      have hj := lt_of_get hdd
      rw [List.length_map, List.length_range] at hj
      rw [List.getElem?_map, List.getElem?_range hj] at hdd
      cases hdd
      obtain ⟨r, d3, g1, g2, g3, g4⟩ := row_ok (ns := ns) (s3 := .no) (s4 := .no) (s5 := .no) (s6 := .no) (s7 := .no) (s8 := .no) (s9 := .val (.int (j : Nat))) (s10 := .no) (s11 := .no) (s12 := .no) (s13 := .no) (s14 := .no) k1 (by omega) (by omega : n < 1000000)
      have t := eCb_ok (p := pTuple) (aCons_ok g4 u_aNil) rfl u_pTupL
      exact ⟨_, _, _, _, _, _, rfl, rfl, t, rfl, ⟨r, rfl, g1, g2⟩, d3, rfl, g3.mono (by omega)⟩
  rw [List.length_map, List.length_range] at h2 h4
  obtain ⟨rows, rfl, hP⟩ := rows_of h3
  rw [List.length_map] at h2
  exact ⟨rows, d', fun r hr => (hP r hr).1, by omega, fun r hr => (hP r hr).2, h4.mono (by omega), xSet_ok (eLc_ok hr rfl h1 (by rw [List.length_map]; omega)) rfl (by show 3 < 17; decide)⟩
theorem W4_ok {rows : Mat} {b : Nat} (hd : BagOk c d) (hc : c + 1000 < 2 ^ 64) (hn : n ≤ 5) (hw : Wd n rows) (hr : rows.length ≤ 4) {X : Nat} (hX : Le X rows) (hXb : 1001 ^ 7 * X < 2 ^ b) (hb : b + b < 134000000) (h10 : 10 ≤ b) :
    ∃ other d', Wd n other ∧ other.length ≤ 11 ∧ Le (1001 ^ 7 * X) other ∧ SameL rows other ∧ BagOk (c + 40) d' ∧ W4 (lw ns d n (.own false (matO rows)) .no .no .no .no .no .no .no .no .no .no .no) = some (.nx, lw ns d' n (.val (matO rows)) (.val (matO other)) .no .no .no .no .no .no .no .no .no .no) := by
  obtain ⟨d', m', h1, h2, h3, h4, h5, h6⟩ := g_oth_eq hd (by omega) (by omega) (by omega) hw hX hXb hb h10
  refine ⟨m', d', h2, by omega, h4, h5, h1, ?_⟩
  have := eCallM_ok (g := g__law_otherwise) (a := aCons (eVar 1) (aCons (eVar 3) (aCons (eVar 2) aNil))) (env := lw ns d n (.own false (matO rows)) .no .no .no .no .no .no .no .no .no .no .no) (e1 := lw ns d n (.own false (matO rows)) .no .no .no .no .no .no .no .no .no .no .no) (e2 := lw ns d n (.val (matO rows)) .no .no .no .no .no .no .no .no .no .no .no) (i := 1) (rs := [.var 3, .val (.int (n : Nat))]) (ds := [matO rows, .int (n : Nat)]) (p := false) (c := d) rfl rfl rfl h6
  exact xSet_ok this rfl (by show 4 < 17; decide)
theorem W12_start (ns : List Int) : ∃ n d, 2 ≤ n ∧ n ≤ 5 ∧ BagOk 1 d ∧ xSeq W1 W2 (Sl.scr ns :: List.replicate 16 Sl.no) = some (.nx, lw ns d n .no .no .no .no .no .no .no .no .no .no .no .no) := by
  obtain ⟨d0, h1, h2⟩ := g_bag_eq ns
  have e0 : (Sl.scr ns :: List.replicate 16 Sl.no) = [.scr ns, .no, .no, .no, .no, .no, .no, .no, .no, .no, .no, .no, .no, .no, .no, .no, .no] := rfl
  rw [e0]
  have c1 : eCallF g__law_bag 0 [.scr ns, .no, .no, .no, .no, .no, .no, .no, .no, .no, .no, .no, .no, .no, .no, .no, .no] = some (.fr d0, [.scr ns, .no, .no, .no, .no, .no, .no, .no, .no, .no, .no, .no, .no, .no, .no, .no, .no]) := by
    show (g__law_bag ns).map _ = _
    rw [h2]
    rfl
  have a1 := xSet_ok (i := 1) c1 rfl (by show 1 < 17; decide)
  obtain ⟨v, d1, v1, v2, v3, v4⟩ := takeS_ok (env := [.scr ns, .own false d0, .no, .no, .no, .no, .no, .no, .no, .no, .no, .no, .no, .no, .no, .no, .no]) (s := 1) (p := false) (f := eC (.int 4)) (k := 4) rfl h1 (by decide) (by decide) rfl
  obtain ⟨N, rfl⟩ : ∃ N : Nat, v = N := ⟨v.toNat, by omega⟩
  have c2 := eOp_ok (p := pAdd) (f := eC (.int 2)) (u_eC _) v4 rfl rfl u_pAdd1
  have a2 := xSet_ok (i := 2) c2 rfl (by show 2 < 17; decide)
  refine ⟨2 + N, d1, by omega, by omega, v3, xSeq_nx a1 (a2.trans ?_)⟩
  have : (2 : Int) + (N : Nat) = ((2 + N : Nat) : Int) := by omega
  rw [this]
  rfl
end
end K52
set_option Elab.async false
set_option linter.all false
set_option maxRecDepth 100000
set_option maxHeartbeats 1000000
/-! The law: the form, and what it is asked. -/
namespace K52
open PySem PySem.Spec L2 Sm
structure Ctx (n k : Nat) (rows other F S A : Mat) (hs ks js : List Nat) : Prop where
  f : Facts n k rows other F S A hs ks js
  same : SameL rows other
  w1 : Wd n rows
  w2 : Wd n other
  x1 : Le (2 ^ k) rows
  x2 : Le (2 ^ k) other
  n5 : n ≤ 5
  n2 : 2 ≤ n
  r1 : rows.length ≤ 4
  r2 : other.length ≤ 11
  wF : Wd n F
theorem lst_ok {env : Env'} {s : Nat} {m : Mat} (h : env[s]? = some (.val (matO m))) : eCb pList (aCons (eVar s) aNil) env = some (.fr (matO m), env) :=
  eCb_ok (aCons_ok (r := .val (matO m)) (e1 := env) (by rw [u_eVar, h]) u_aNil) rfl u_pLstL
theorem tup_ok {env : Env'} {s : Nat} {m : Mat} (h : env[s]? = some (.val (matO m))) : eCb pTuple (aCons (eVar s) aNil) env = some (.val (matT m), env) :=
  eCb_ok (aCons_ok (r := .val (matO m)) (e1 := env) (by rw [u_eVar, h]) u_aNil) rfl u_pTupL
theorem var_ok {env : Env'} {s : Nat} {d : D} (h : env[s]? = some (.val d)) : eVar s env = some (.val d, env) := by rw [u_eVar, h]
theorem call2_ok {g : List D → Option D} {env : Env'} {f1 : Ev} {r : R} {d x : D} {i : Int} (h1 : f1 env = some (r, env)) (hr : r.fz = .val d) (h2 : env[2]? = some (.val (.int i))) (hg : g [d, .int i] = some x) : eCall g (aCons f1 (aCons (eVar 2) aNil)) env = some (.val x, env) := by
  refine eCall_ok (aCons_ok h1 (aCons_ok (var_ok h2) u_aNil)) (e2 := env) (ds := [d, .int i]) ?_ hg
  rw [hr]
  rfl
theorem call3_ok {g : List D → Option D} {env : Env'} {f1 f2 f3 : Ev} {r1 r2 r3 : R} {d1 d2 d3 x : D} (h1 : f1 env = some (r1, env)) (e1 : r1.fz = .val d1) (h2 : f2 env = some (r2, env)) (e2 : r2.fz = .val d2) (h3 : f3 env = some (r3, env)) (e3 : r3.fz = .val d3) (hg : g [d1, d2, d3] = some x) : eCall g (aCons f1 (aCons f2 (aCons f3 aNil))) env = some (.val x, env) := by
  refine eCall_ok (aCons_ok h1 (aCons_ok h2 (aCons_ok h3 u_aNil))) (e2 := env) (ds := [d1, d2, d3]) ?_ hg
  rw [e1, e2, e3]
  rfl
theorem pair_ok {g : List D → Option D} {env : Env'} {f1 f2 : Ev} {r1 r2 : R} {d1 d2 x : D} (h1 : f1 env = some (r1, env)) (e1 : r1.fz = .val d1) (h2 : f2 env = some (r2, env)) (e2 : r2.fz = .val d2) (hg : g [d1, d2] = some x) : eCall g (aCons f1 (aCons f2 aNil)) env = some (.val x, env) := by
  refine eCall_ok (aCons_ok h1 (aCons_ok h2 u_aNil)) (e2 := env) (ds := [d1, d2]) ?_ hg
  rw [e1, e2]
  rfl
theorem eIf_t {c : EvB} {f g : Ev} {env e1 : Env'} {r : Option (R × Env')} (h1 : c env = some (true, e1)) (h2 : f e1 = r) : eIf c f g env = r := by
  simp only [eIf, h1, Option.bind_some, if_true, h2]
theorem eIf_f {c : EvB} {f g : Ev} {env e1 : Env'} {r : Option (R × Env')} (h1 : c env = some (false, e1)) (h2 : g e1 = r) : eIf c f g env = r := by
  simp only [eIf, h1, Option.bind_some, Bool.false_eq_true, if_false, h2]
theorem bNot_ok {c : EvB} {env e1 : Env'} {b : Bool} (h : c env = some (b, e1)) : bNot c env = some (!b, e1) := by
  simp only [bNot, h, Option.map_some]
theorem bV_ok {f : Ev} {env e1 : Env'} {r : R} {d : D} {b : Bool} (h1 : f env = some (r, e1)) (h2 : deref e1 r = some d) (h3 : truthD d = some b) : bV f env = some (b, e1) := by
  simp only [bV, h1, Option.bind_some, h2, h3, Option.map_some]
theorem okL_ints : ∀ r : Row, okL (r.map PyData.int)
  | [] => trivial
  | _ :: r => ⟨trivial, okL_ints r⟩
theorem szL_ints : ∀ r : Row, szL (r.map PyData.int) = r.length
  | [] => rfl
  | _ :: r => by
    simp only [List.map_cons, szL, szD, szL_ints r, List.length_cons]
    omega
theorem okL_rows : ∀ m : Mat, okL (m.map rowT)
  | [] => trivial
  | r :: m => ⟨okL_ints r, okL_rows m⟩
theorem szL_rows {n : Nat} : ∀ {m : Mat}, Wd n m → szL (m.map rowT) = m.length * (n + 1)
  | [], _ => by simp [szL]
  | r :: m, hw => by
    have h1 : szD (rowT r) = 1 + szL (r.map PyData.int) := rfl
    rw [List.map_cons, szL, szL_rows (m := m) fun x hx => hw x (List.mem_cons_of_mem _ hx), h1, szL_ints, hw r List.mem_cons_self, List.length_cons, Nat.add_mul]
    omega
theorem sz_matT {n : Nat} {m : Mat} (hw : Wd n m) (hn : n ≤ 5) (hm : m.length ≤ 20) : szD (matT m) ≤ 200 := by
  have h1 : szD (matT m) = 1 + szL (m.map rowT) := rfl
  rw [h1, szL_rows hw]
  have : m.length * (n + 1) ≤ 20 * 6 := Nat.mul_le_mul hm (by omega)
  omega
section
variable {ns : List Int} {c n k : Nat} {d : D} {rows other F S A : Mat} {hs ks js : List Nat}
abbrev l4 (ns : List Int) (d : D) (n : Nat) (rows other : Mat) (s5 s6 s7 s8 s9 s10 s11 s12 s13 s14 : Sl) : Env' := lw ns d n (.val (matO rows)) (.val (matO other)) s5 s6 s7 s8 s9 s10 s11 s12 s13 s14
variable {s5 s6 s7 s8 s9 s10 s11 s12 s13 s14 : Sl}
theorem W5_ok (X : Ctx n k rows other F S A hs ks js) (hd : BagOk c d) (hc : c + 1 < 2 ^ 64) : ∃ d', BagOk (c + 1) d' ∧ W5 (l4 ns d n rows other .no .no .no .no .no .no .no .no .no .no) = some (.nx, l4 ns d' n rows other (.val (matT F)) .no .no .no .no .no .no .no .no .no) := by
  obtain ⟨v, d', v1, v2, v3, v4⟩ := takeS_ok (env := l4 ns d n rows other .no .no .no .no .no .no .no .no .no .no) (s := 1) (p := false) (f := eC (.int 2)) (k := 2) rfl hd (by omega) (by decide) rfl
  refine ⟨d', v3, ?_⟩
  have cnd : bE (eOp pEq (eCallM g__law_take (aCons (eVar 1) (aCons (eC (.int 2)) aNil))) (eC (.int 0))) (l4 ns d n rows other .no .no .no .no .no .no .no .no .no .no) = some (decide (v = 0), l4 ns d' n rows other .no .no .no .no .no .no .no .no .no .no) := by
    rw [u_bE, eOp_ok v4 (u_eC _) rfl rfl pEq_int]
    rfl
  by_cases h : v = 0
  · rw [decide_eq_true h] at cnd
    have t := eIf_t (g := eCb pTuple (aCons (eVar 3) aNil)) cnd (lst_ok (s := 3) (m := rows) rfl)
    exact xSet_ok (eCall_ok (aCons_ok t (aCons_ok (var_ok (s := 2) rfl) u_aNil)) rfl (X.f.p1 _ (.inl rfl))) rfl (by show 5 < 17; decide)
  · rw [decide_eq_false h] at cnd
    have t := eIf_f (f := eCb pList (aCons (eVar 3) aNil)) cnd (tup_ok (s := 3) (m := rows) rfl)
    exact xSet_ok (eCall_ok (aCons_ok t (aCons_ok (var_ok (s := 2) rfl) u_aNil)) rfl (X.f.p1 _ (.inr rfl))) rfl (by show 5 < 17; decide)
theorem W6_ok (X : Ctx n k rows other F S A hs ks js) : W6 (l4 ns d n rows other (.val (matT F)) .no .no .no .no .no .no .no .no .no) = some (.nx, l4 ns d n rows other (.val (matT F)) (.val (headL hs)) .no .no .no .no .no .no .no .no) :=
  xSet_ok (call2_ok (var_ok (s := 5) rfl) rfl rfl X.f.sh) rfl (by show 6 < 17; decide)
abbrev l6 (ns : List Int) (d : D) (n : Nat) (rows other F : Mat) (hs : List Nat) (s7 s8 s9 s10 s11 s12 s13 s14 : Sl) : Env' := l4 ns d n rows other (.val (matT F)) (.val (headL hs)) s7 s8 s9 s10 s11 s12 s13 s14
theorem isN_ok {env : Env'} {f : Ev} {r : R} {l : List D} (h : f env = some (r, env)) (hr : deref env r.fz = some (.list l)) : bE (eOp pIs f (eC .none)) env = some (false, env) := by
  rw [u_bE, eOp_ok h (u_eC _) hr rfl u_pIsN]
  rfl
theorem W7_ok : W7 (l6 ns d n rows other F hs s7 s8 s9 s10 s11 s12 s13 s14) = some (.nx, l6 ns d n rows other F hs s7 s8 s9 s10 s11 s12 s13 s14) := by
  have c1 := isN_ok (env := l6 ns d n rows other F hs s7 s8 s9 s10 s11 s12 s13 s14) (var_ok (s := 6) (d := headL hs) rfl) rfl
  have c2 : bV (eIsi ["tuple"] (eVar 5)) (l6 ns d n rows other F hs s7 s8 s9 s10 s11 s12 s13 s14) = some (true, l6 ns d n rows other F hs s7 s8 s9 s10 s11 s12 s13 s14) := bV_ok (isi_ok (k := 5) (d := matT F) (a := true) rfl rfl) rfl rfl
  exact xIf_f (bOr_f c1 (bNot_ok c2)) rfl
theorem W8_ok (X : Ctx n k rows other F S A hs ks js) : W8 (l6 ns d n rows other F hs .no s8 s9 s10 s11 s12 s13 s14) = some (.nx, l6 ns d n rows other F hs (.own false (.list [matT F, matT F, matT F])) s8 s9 s10 s11 s12 s13 s14) := by
  have t1 := call2_ok (env := l6 ns d n rows other F hs .no s8 s9 s10 s11 s12 s13 s14) (lst_ok (s := 4) (m := other) rfl) rfl rfl (X.f.p2 _ (.inl rfl))
  have t2 := call2_ok (env := l6 ns d n rows other F hs .no s8 s9 s10 s11 s12 s13 s14) (tup_ok (s := 4) (m := other) rfl) rfl rfl (X.f.p2 _ (.inr rfl))
  have t3 := call2_ok (env := l6 ns d n rows other F hs .no s8 s9 s10 s11 s12 s13 s14) (var_ok (s := 5) (d := matT F) rfl) rfl rfl X.f.p3
  refine xSet_ok (r := .fr (.list [matT F, matT F, matT F])) (e1 := l6 ns d n rows other F hs .no s8 s9 s10 s11 s12 s13 s14) ?_ rfl (by show 7 < 17; decide)
  rw [u_eLst, aCons_ok t1 (aCons_ok t2 (aCons_ok t3 u_aNil))]
  rfl
theorem W9_ok (X : Ctx n k rows other F S A hs ks js) : W9 (l6 ns d n rows other F hs (.own false (.list [matT F, matT F, matT F])) s8 s9 s10 s11 s12 s13 s14) = some (.nx, l6 ns d n rows other F hs (.own false (.list [matT F, matT F, matT F, .int (F.length : Nat), .int (F.length : Nat)])) s8 s9 s10 s11 s12 s13 s14) := by
  let e0 : Env' := l6 ns d n rows other F hs (.own false (.list [matT F, matT F, matT F])) s8 s9 s10 s11 s12 s13 s14
  have t1 := call2_ok (env := e0) (lst_ok (s := 3) (m := rows) rfl) rfl rfl (g_rank_eq (X.f.p1 _ (.inl rfl)))
  have t2 := call2_ok (env := e0) (tup_ok (s := 4) (m := other) rfl) rfl rfl (g_rank_eq (X.f.p2 _ (.inr rfl)))
  have l : eLst (aCons (eCall g_rank (aCons (eCb pList (aCons (eVar 3) aNil)) (aCons (eVar 2) aNil))) (aCons (eCall g_rank (aCons (eCb pTuple (aCons (eVar 4) aNil)) (aCons (eVar 2) aNil))) aNil)) e0 = some (.fr (.list [.int (F.length : Nat), .int (F.length : Nat)]), e0) := by
    rw [u_eLst, aCons_ok t1 (aCons_ok t2 u_aNil)]
    rfl
  have q : eOp pAdd (eVar 7) (eLst (aCons (eCall g_rank (aCons (eCb pList (aCons (eVar 3) aNil)) (aCons (eVar 2) aNil))) (aCons (eCall g_rank (aCons (eCb pTuple (aCons (eVar 4) aNil)) (aCons (eVar 2) aNil))) aNil))) e0 = some (.fr (.list [matT F, matT F, matT F, .int (F.length : Nat), .int (F.length : Nat)]), e0) := eOp_ok (ra := .var 7) (e1 := e0) (x := .list [matT F, matT F, matT F]) rfl l rfl rfl rfl
  exact xSet_ok q rfl (by show 7 < 17; decide)
theorem W10_ok (X : Ctx n k rows other F S A hs ks js) : W10 (l6 ns d n rows other F hs (.own false (.list [matT F, matT F, matT F, .int (F.length : Nat), .int (F.length : Nat)])) s8 s9 s10 s11 s12 s13 s14) = some (.nx, l6 ns d n rows other F hs (.val (.list [matT F, matT F, matT F, .int (F.length : Nat), .int (F.length : Nat)])) s8 s9 s10 s11 s12 s13 s14) := by
  let L : D := .list [matT F, matT F, matT F, .int (F.length : Nat), .int (F.length : Nat)]
  let e0 : Env' := l6 ns d n rows other F hs (.own false L) s8 s9 s10 s11 s12 s13 s14
  have m1 : eOp pMul (eLst (aCons (eVar 5) aNil)) (eC (.int 3)) e0 = some (.fr (.list [matT F, matT F, matT F]), e0) := by
    have l : eLst (aCons (eVar 5) aNil) e0 = some (.fr (.list [matT F]), e0) := rfl
    exact eOp_ok l (u_eC _) rfl rfl (mulL_nat (x := matT F) (n := 3) (by decide))
  have m2 : eOp pMul (eLst (aCons (eCb pLen (aCons (eVar 5) aNil)) aNil)) (eC (.int 2)) e0 = some (.fr (.list [.int (F.length : Nat), .int (F.length : Nat)]), e0) := by
    have q : eCb pLen (aCons (eVar 5) aNil) e0 = some (.val (.int (F.length : Nat)), e0) := by
      refine eCb_ok (rs := [.val (matT F)]) (e1 := e0) (ds := [matT F]) rfl rfl ?_
      unfold matT
      rw [u_pLenT, List.length_map]
    have l : eLst (aCons (eCb pLen (aCons (eVar 5) aNil)) aNil) e0 = some (.fr (.list [.int (F.length : Nat)]), e0) := by
      rw [u_eLst, aCons_ok q u_aNil]
      rfl
    exact eOp_ok l (u_eC _) rfl rfl (mulL_nat (x := .int (F.length : Nat)) (n := 2) (by decide))
  have m3 : eOp pAdd (eOp pMul (eLst (aCons (eVar 5) aNil)) (eC (.int 3))) (eOp pMul (eLst (aCons (eCb pLen (aCons (eVar 5) aNil)) aNil)) (eC (.int 2))) e0 = some (.fr L, e0) := eOp_ok m1 m2 rfl rfl rfl
  have ok : okD L := ⟨okL_rows F, okL_rows F, okL_rows F, trivial, trivial, trivial⟩
  have sz : szD L ≤ 900000 := by
    have h1 := sz_matT X.wF X.n5 (show F.length ≤ 20 by have := X.f.fl; omega)
    have : szD L = 1 + (szD (matT F) + (szD (matT F) + (szD (matT F) + (1 + (1 + 0))))) := rfl
    omega
  have cl : eCall g__law_alike (aCons (eVar 7) (aCons (eOp pAdd (eOp pMul (eLst (aCons (eVar 5) aNil)) (eC (.int 3))) (eOp pMul (eLst (aCons (eCb pLen (aCons (eVar 5) aNil)) aNil)) (eC (.int 2)))) aNil)) e0 = some (.val (.bool true), l6 ns d n rows other F hs (.val L) s8 s9 s10 s11 s12 s13 s14) :=
    eCall_ok (aCons_ok (r := .var 7) (e1 := e0) rfl (aCons_ok m3 u_aNil)) (ds := [L, L]) rfl (g_alike_eq ok sz)
  exact xIf_f (bNot_ok (bV_ok cl rfl rfl)) rfl
abbrev l10 (ns : List Int) (d : D) (n : Nat) (rows other F : Mat) (hs : List Nat) (s8 s9 s10 s11 s12 s13 s14 : Sl) : Env' := l6 ns d n rows other F hs (.val (.list [matT F, matT F, matT F, .int (F.length : Nat), .int (F.length : Nat)])) s8 s9 s10 s11 s12 s13 s14
theorem made_ok {env : Env'} {r : Row} {b : Bool} {s5 s6 : Nat} (h5 : env[s5]? = some (.val (matT F))) (h6 : env[s6]? = some (.val (headL hs))) (h8 : env[8]? = some (.val (rowT r))) (h : g__law_made [matT F, headL hs, rowT r] = some (.bool b)) : eCall g__law_made (aCons (eVar s5) (aCons (eVar s6) (aCons (eVar 8) aNil))) env = some (.val (.bool b), env) :=
  call3_ok (var_ok h5) rfl (var_ok h6) rfl (var_ok h8) rfl h
theorem W11_ok (X : Ctx n k rows other F S A hs ks js) : ∃ s8', W11 (l10 ns d n rows other F hs s8 s9 s10 s11 s12 s13 s14) = some (.nx, l10 ns d n rows other F hs s8' s9 s10 s11 s12 s13 s14) := by
  let e0 : Env' := l10 ns d n rows other F hs s8 s9 s10 s11 s12 s13 s14
  have hi : lSeq (eOp pAdd (eVar 3) (eVar 4)) e0 = some ((rows ++ other).map rowT, e0) := by
    refine lSeq_ok (r := .fr (.list ((rows ++ other).map rowT))) (e1 := e0) (d := .list ((rows ++ other).map rowT)) ?_ rfl rfl
    refine eOp_ok (ra := .val (matO rows)) (rb := .val (matO other)) (e1 := e0) (x := matO rows) (y := matO other) rfl rfl rfl rfl ?_
    have h1 := X.r1
    have h2 := X.r2
    unfold matO
    rw [u_pAdd3, if_pos (by rw [List.length_map, List.length_map]; omega), List.map_append]
  obtain ⟨env', h1, s8', rfl⟩ := for_ok hi (I := fun _ env => ∃ s8, env = l10 ns d n rows other F hs s8 s9 s10 s11 s12 s13 s14) ⟨s8, rfl⟩ (g := gN 8) (F := xIf (bNot (bV (eCall g__law_made (aCons (eVar 5) (aCons (eVar 6) (aCons (eVar 8) aNil)))))) (xRet (eC (.bool false))) xNx) (fun j env dd hI hdd => by
    obtain ⟨s8, rfl⟩ := hI
    rw [List.getElem?_map, Option.map_eq_some_iff] at hdd
    obtain ⟨r, hr, rfl⟩ := hdd
    have hm := List.mem_of_getElem? hr
    have hin : r.length = n ∧ (∀ x ∈ r, x.natAbs ≤ 2 ^ k) ∧ Lat (V rows) (vec r) := by
      rcases List.mem_append.mp hm with h | h
      · exact ⟨X.w1 r h, X.x1 r h, lat_mem h⟩
      · exact ⟨X.w2 r h, X.x2 r h, (X.same _).mpr (lat_mem h)⟩
    obtain ⟨b, b1, b2⟩ := X.f.md r hin.1 hin.2.1
    rw [b2.mpr hin.2.2] at b1
    have t := made_ok (env := l10 ns d n rows other F hs (.val (rowT r)) s9 s10 s11 s12 s13 s14) (s5 := 5) (s6 := 6) rfl rfl rfl b1
    exact ⟨_, _, rfl, .inl (xIf_f (bNot_ok (bV_ok t rfl rfl)) rfl), _, rfl⟩)
  exact ⟨s8', h1⟩
theorem isNot_ok {env : Env'} {f : Ev} (h : f env = some (.val (.bool true), env)) : bE (eOp pIsNot f (eC (.bool true))) env = some (false, env) := by
  rw [u_bE, eOp_ok h (u_eC _) rfl rfl u_pIsNotB]
  rfl
theorem W12_ok (X : Ctx n k rows other F S A hs ks js) : ∃ s8', W12 (l10 ns d n rows other F hs s8 s9 s10 s11 s12 s13 s14) = some (.nx, l10 ns d n rows other F hs s8' s9 s10 s11 s12 s13 s14) := by
  let e0 : Env' := l10 ns d n rows other F hs s8 s9 s10 s11 s12 s13 s14
  have hi : lSeq (eVar 5) e0 = some (F.map rowT, e0) := lSeq_ok (r := .val (matT F)) (e1 := e0) (d := matT F) rfl rfl rfl
  obtain ⟨env', h1, s8', rfl⟩ := for_ok hi (I := fun _ env => ∃ s8, env = l10 ns d n rows other F hs s8 s9 s10 s11 s12 s13 s14) ⟨s8, rfl⟩ (g := gN 8) (F := xIf (bOr (bE (eOp pIsNot (eCall g_is_made_of (aCons (eCb pList (aCons (eVar 3) aNil)) (aCons (eVar 2) (aCons (eVar 8) aNil)))) (eC (.bool true)))) (bE (eOp pIsNot (eCall g_is_made_of (aCons (eCb pTuple (aCons (eVar 4) aNil)) (aCons (eVar 2) (aCons (eVar 8) aNil)))) (eC (.bool true))))) (xRet (eC (.bool false))) xNx) (fun j env dd hI hdd => by
    obtain ⟨s8, rfl⟩ := hI
    rw [List.getElem?_map, Option.map_eq_some_iff] at hdd
    obtain ⟨r, hr, rfl⟩ := hdd
    have hm := List.mem_of_getElem? hr
    obtain ⟨b1, b2⟩ := X.f.im2 r hm
    let e1 : Env' := l10 ns d n rows other F hs (.val (rowT r)) s9 s10 s11 s12 s13 s14
    have t1 := call3_ok (env := e1) (f2 := eVar 2) (f3 := eVar 8) (lst_ok (s := 3) (m := rows) rfl) rfl (var_ok rfl) rfl (var_ok rfl) rfl b1
    have t2 := call3_ok (env := e1) (f2 := eVar 2) (f3 := eVar 8) (tup_ok (s := 4) (m := other) rfl) rfl (var_ok rfl) rfl (var_ok rfl) rfl b2
    exact ⟨_, _, rfl, .inl (xIf_f (bOr_f (isNot_ok t1) (isNot_ok t2)) rfl), _, rfl⟩)
  exact ⟨s8', h1⟩
end
end K52
set_option Elab.async false
set_option linter.all false
set_option maxRecDepth 100000
set_option maxHeartbeats 1000000
/-! The law: five rows that are drawn. -/
namespace K52
open PySem PySem.Spec L2 Sm
noncomputable abbrev V13a : Ex := xSet 8 (eCb pTuple (aCons (eOp pMul (eLst (aCons (eC (.int 0)) aNil)) (eVar 2)) aNil))
noncomputable abbrev V13s : Ev := eCallM g__law_some (aCons (eVar 1) (aCons (eLst (aCons (eC (.int 0)) (aCons (eC (.int 1)) (aCons (eUn pNeg (eC (.int 1))) (aCons (eC (.int 3)) aNil))))) aNil))
noncomputable abbrev V13b : Ex := xFor (lSeq (eVar 4)) (gN 10) (xSet 8 (eCall g__law_sum (aCons (eVar 8) (aCons (eVar 10) (aCons V13s aNil)))))
noncomputable abbrev V13t : Ev := eCallM g__law_some (aCons (eVar 1) (aCons (eLst (aCons (eC (.int 1)) (aCons (eUn pNeg (eC (.int 1))) (aCons (eC (.int 2)) aNil)))) aNil))
noncomputable abbrev V13d : Ex := xSet 8 (eOp pAdd (eOp pAdd (eSl (eVar 8) oNone (oSome (eVar 11))) (eTup (aCons (eOp pAdd (eOp pIx (eVar 8) (eVar 11)) V13t) aNil))) (eSl (eVar 8) (oSome (eOp pAdd (eVar 11) (eC (.int 1)))) oNone))
noncomputable abbrev V13c : Ex := xIf (bE (eOp pEq (eCallM g__law_take (aCons (eVar 1) (aCons (eC (.int 2)) aNil))) (eC (.int 0)))) (xSeq (xSet 11 (eCallM g__law_take (aCons (eVar 1) (aCons (eVar 2) aNil)))) V13d) xNx
noncomputable abbrev V13e : Ex := xIf (bNot (bV (eCall g__law_alike (aCons (eCall g_is_made_of (aCons (eCb pList (aCons (eVar 3) aNil)) (aCons (eVar 2) (aCons (eVar 8) aNil)))) (aCons (eCall g__law_made (aCons (eVar 5) (aCons (eVar 6) (aCons (eVar 8) aNil)))) aNil))))) (xRet (eC (.bool false))) xNx
theorem W13_eq : W13 = xFor (lRng1 (aCons (eC (.int 5)) aNil)) (gN 9) (xSeq V13a (xSeq V13b (xSeq V13c V13e))) := rfl
section
variable {ns : List Int} {c n k Y : Nat} {d : D} {rows other F S A : Mat} {hs ks js : List Nat} {s8 s9 s10 s11 s12 s13 s14 : Sl}
theorem V13b_ok (X : Ctx n k rows other F S A hs ks js) (hd : BagOk c d) (hc : c + 100 < 2 ^ 64) (hY : Le Y other) (hYk : 33 * Y + 2 ≤ 2 ^ k) (hk : k ≤ 1000) : ∃ d' r s10', BagOk (c + 11) d' ∧ r.length = n ∧ (∀ x ∈ r, x.natAbs ≤ 33 * Y) ∧
    V13b (l10 ns d n rows other F hs (.val (rowT (zeroR n))) s9 s10 s11 s12 s13 s14) = some (.nx, l10 ns d' n rows other F hs (.val (rowT r)) s9 s10' s11 s12 s13 s14) := by
  let e0 : Env' := l10 ns d n rows other F hs (.val (rowT (zeroR n))) s9 s10 s11 s12 s13 s14
  have hi : lSeq (eVar 4) e0 = some (other.map rowT, e0) := lSeq_ok (r := .val (matO other)) (e1 := e0) (d := matO other) rfl rfl rfl
  obtain ⟨env', h1, d', r, s10', rfl, k1, k2, k3⟩ := for_ok hi (I := fun j env => ∃ d r s10, env = l10 ns d n rows other F hs (.val (rowT r)) s9 s10 s11 s12 s13 s14 ∧ BagOk (c + j) d ∧ r.length = n ∧ ∀ x ∈ r, x.natAbs ≤ j * (3 * Y)) ⟨d, zeroR n, s10, rfl, hd, by unfold zeroR; rw [List.length_replicate], fun x hx => by
    unfold zeroR at hx
    rw [(List.mem_replicate.mp hx).2]
    exact Nat.zero_le _⟩ (g := gN 10) (F := xSet 8 (eCall g__law_sum (aCons (eVar 8) (aCons (eVar 10) (aCons V13s aNil))))) (fun j env dd hI hdd => by
    obtain ⟨d1, r, s10, rfl, k1, k2, k3⟩ := hI
    have hj := lt_of_get hdd
    rw [List.length_map] at hj
    have hr2 := X.r2
    rw [List.getElem?_map, Option.map_eq_some_iff] at hdd
    obtain ⟨its, hits, rfl⟩ := hdd
    have hm := List.mem_of_getElem? hits
    let e1 : Env' := l10 ns d1 n rows other F hs (.val (rowT r)) s9 (.val (rowT its)) s11 s12 s13 s14
    obtain ⟨t, d2, t1, t2, t3⟩ := someS_ok (env := e1) (s := 1) (p := false) (ts := [0, 1, -1, 3]) (f := eLst (aCons (eC (.int 0)) (aCons (eC (.int 1)) (aCons (eUn pNeg (eC (.int 1))) (aCons (eC (.int 3)) aNil))))) rfl k1 (by omega) (by simp) rfl
    have ht : t.natAbs ≤ 3 := by
      simp only [List.mem_cons, List.not_mem_nil, or_false] at t1
      rcases t1 with rfl | rfl | rfl | rfl <;> decide
    have hn5 := X.n5
    have g := g_sum_eq (a := r) (b := its) (da := rowT r) (db := rowT its) (t := t) (.inr rfl) (.inr rfl) (k := 2) (by omega) (m := k) (fun x hx => Nat.lt_of_le_of_lt (hY its hm x hx) (by omega)) (by omega) (by omega)
    let e2 : Env' := l10 ns d2 n rows other F hs (.val (rowT r)) s9 (.val (rowT its)) s11 s12 s13 s14
    have q := eCall_ok (g := g__law_sum) (a := aCons (eVar 8) (aCons (eVar 10) (aCons V13s aNil))) (env := e1) (e1 := e2) (aCons_ok (r := .val (rowT r)) (e1 := e1) rfl (aCons_ok (r := .val (rowT its)) (e1 := e1) rfl (aCons_ok t3 u_aNil))) (e2 := e2) (ds := [rowT r, rowT its, .int t]) rfl g
    have hl : r.length = its.length := by rw [k2, X.w2 its hm]
    refine ⟨e1, _, rfl, .inl (xSet_ok (i := 8) q rfl (by show 8 < 17; decide)), d2, sumP r its t, _, rfl, t2.mono (by omega), by rw [sum_len hl, k2], fun x hx => ?_⟩
    unfold sumP at hx
    obtain ⟨⟨y, z⟩, hyz, rfl⟩ := List.mem_map.mp hx
    have q1 := k3 y (List.of_mem_zip hyz).1
    have q2 := hY its hm z (List.of_mem_zip hyz).2
    have q3 : (t * z).natAbs ≤ 3 * Y := by
      rw [Int.natAbs_mul]
      exact Nat.mul_le_mul ht q2
    rw [Nat.add_mul, Nat.one_mul]
    simp only
    omega)
  rw [List.length_map] at k1 k3
  have hr2 := X.r2
  refine ⟨d', r, s10', k1.mono (by omega), k2, fun x hx => Nat.le_trans (k3 x hx) ?_, h1⟩
  have : other.length * (3 * Y) ≤ 11 * (3 * Y) := Nat.mul_le_mul_right _ hr2
  omega
theorem slT_ok {env : Env'} {s : Nat} {r : Row} {lo hi : EvO} {a b : Option Int} {r' : Row} (h : env[s]? = some (.val (rowT r))) (h1 : lo env = some (a, env)) (h2 : hi env = some (b, env)) (hc : cutG (r.map PyData.int) a b = r'.map PyData.int) : eSl (eVar s) lo hi env = some (.val (rowT r'), env) := by
  have q1 := var_ok h
  have q3 : pSl (rowT r) a b = some (.val (rowT r')) := by
    unfold rowT
    rw [u_pSlT, hc]
  simp only [eSl, q1, h1, h2, Option.bind_some, u_fz1, u_deref1, q3, Option.map_some]
theorem V13d_ok (X : Ctx n k rows other F S A hs ks js) (hd : BagOk c d) (hc : c < 2 ^ 64) {r : Row} {a : Nat} (hr : r.length = n) (ha : a < n) {B : Nat} (hB : ∀ x ∈ r, x.natAbs ≤ B) : ∃ d' r', BagOk (c + 1) d' ∧ r'.length = n ∧ (∀ x ∈ r', x.natAbs ≤ B + 2) ∧
    V13d (l10 ns d n rows other F hs (.val (rowT r)) s9 s10 (.val (.int (a : Nat))) s12 s13 s14) = some (.nx, l10 ns d' n rows other F hs (.val (rowT r')) s9 s10 (.val (.int (a : Nat))) s12 s13 s14) := by
  let e0 : Env' := l10 ns d n rows other F hs (.val (rowT r)) s9 s10 (.val (.int (a : Nat))) s12 s13 s14
  obtain ⟨t, d2, t1, t2, t3⟩ := someS_ok (env := e0) (s := 1) (p := false) (ts := [1, -1, 2]) (f := eLst (aCons (eC (.int 1)) (aCons (eUn pNeg (eC (.int 1))) (aCons (eC (.int 2)) aNil)))) rfl hd hc (by simp) rfl
  have ht : t.natAbs ≤ 2 := by
    simp only [List.mem_cons, List.not_mem_nil, or_false] at t1
    rcases t1 with rfl | rfl | rfl <;> decide
  let e2 : Env' := l10 ns d2 n rows other F hs (.val (rowT r)) s9 s10 (.val (.int (a : Nat))) s12 s13 s14
  obtain ⟨y, hy⟩ : ∃ y, r[a]? = some y := ⟨_, List.getElem?_eq_getElem (by omega)⟩
  have hn5 := X.n5
  have a1 : eSl (eVar 8) oNone (oSome (eVar 11)) e0 = some (.val (rowT (r.take a)), e0) := slT_ok (env := e0) (s := 8) (b := some ((a : Nat) : Int)) rfl rfl rfl (by rw [cut_take, List.map_take])
  have a2 : eOp pIx (eVar 8) (eVar 11) e0 = some (.val (.int y), e0) := ixT_ok (env := e0) (s := 8) (k := 11) rfl rfl hy
  have a3 : eOp pAdd (eOp pIx (eVar 8) (eVar 11)) V13t e0 = some (.val (.int (y + t)), e2) := eOp_ok a2 t3 rfl rfl u_pAdd1
  have a4 : eTup (aCons (eOp pAdd (eOp pIx (eVar 8) (eVar 11)) V13t) aNil) e0 = some (.val (rowT [y + t]), e2) := by
    rw [u_eTup, aCons_ok a3 u_aNil]
    rfl
  have a5 : eOp pAdd (eSl (eVar 8) oNone (oSome (eVar 11))) (eTup (aCons (eOp pAdd (eOp pIx (eVar 8) (eVar 11)) V13t) aNil)) e0 = some (.val (rowT (r.take a ++ [y + t])), e2) := by
    refine eOp_ok a1 a4 rfl rfl ?_
    unfold rowT
    rw [u_pAdd4, if_pos (by rw [List.length_map, List.length_map, List.length_take, List.length_singleton]; omega), List.map_append]
  have a6 : eOp pAdd (eVar 11) (eC (.int 1)) e2 = some (.val (.int ((a + 1 : Nat) : Int)), e2) := by
    have := eOp_ok (p := pAdd) (f := eVar 11) (g := eC (.int 1)) (env := e2) (var_ok (d := .int (a : Nat)) rfl) (u_eC _) rfl rfl u_pAdd1
    rw [this]
    rfl
  have a7 : eSl (eVar 8) (oSome (eOp pAdd (eVar 11) (eC (.int 1)))) oNone e2 = some (.val (rowT (r.drop (a + 1))), e2) := by
    refine slT_ok (env := e2) (s := 8) (a := some ((a + 1 : Nat) : Int)) (b := none) rfl ?_ rfl (by rw [cut_drop _ _ (by rw [List.length_map]; omega), List.map_drop])
    rw [u_oSome, a6]
    rfl
  have a8 : eOp pAdd (eOp pAdd (eSl (eVar 8) oNone (oSome (eVar 11))) (eTup (aCons (eOp pAdd (eOp pIx (eVar 8) (eVar 11)) V13t) aNil))) (eSl (eVar 8) (oSome (eOp pAdd (eVar 11) (eC (.int 1)))) oNone) e0 = some (.val (rowT (r.take a ++ [y + t] ++ r.drop (a + 1))), e2) := by
    refine eOp_ok a5 a7 rfl rfl ?_
    unfold rowT
    rw [u_pAdd4, if_pos (by
      rw [List.length_map, List.length_map, List.length_append, List.length_take, List.length_singleton, List.length_drop]
      omega), ← List.map_append]
  refine ⟨d2, _, t2, ?_, fun x hx => ?_, xSet_ok a8 rfl (by show 8 < 17; decide)⟩
  · rw [List.length_append, List.length_append, List.length_take, List.length_singleton, List.length_drop]
    omega
  · rcases List.mem_append.mp hx with h | h
    · rcases List.mem_append.mp h with h | h
      · exact Nat.le_trans (hB x (List.mem_of_mem_take h)) (Nat.le_add_right _ _)
      · rw [List.mem_singleton.mp h]
        have := hB y (List.mem_of_getElem? hy)
        omega
    · exact Nat.le_trans (hB x (List.mem_of_mem_drop h)) (Nat.le_add_right _ _)
theorem V13c_ok (X : Ctx n k rows other F S A hs ks js) (hd : BagOk c d) (hc : c + 10 < 2 ^ 64) {r : Row} (hr : r.length = n) {B : Nat} (hB : ∀ x ∈ r, x.natAbs ≤ B) : ∃ d' r' s11', BagOk (c + 3) d' ∧ r'.length = n ∧ (∀ x ∈ r', x.natAbs ≤ B + 2) ∧
    V13c (l10 ns d n rows other F hs (.val (rowT r)) s9 s10 s11 s12 s13 s14) = some (.nx, l10 ns d' n rows other F hs (.val (rowT r')) s9 s10 s11' s12 s13 s14) := by
  obtain ⟨v, d1, v1, v2, v3, v4⟩ := takeS_ok (env := l10 ns d n rows other F hs (.val (rowT r)) s9 s10 s11 s12 s13 s14) (s := 1) (p := false) (f := eC (.int 2)) (k := 2) rfl hd (by omega) (by decide) rfl
  have cnd : bE (eOp pEq (eCallM g__law_take (aCons (eVar 1) (aCons (eC (.int 2)) aNil))) (eC (.int 0))) (l10 ns d n rows other F hs (.val (rowT r)) s9 s10 s11 s12 s13 s14) = some (decide (v = 0), l10 ns d1 n rows other F hs (.val (rowT r)) s9 s10 s11 s12 s13 s14) := by
    rw [u_bE, eOp_ok v4 (u_eC _) rfl rfl pEq_int]
    rfl
  by_cases h : v = 0
  · rw [decide_eq_true h] at cnd
    have hn2 := X.n2
    obtain ⟨a, d2, a1, a2, a3, a4⟩ := takeS_ok (env := l10 ns d1 n rows other F hs (.val (rowT r)) s9 s10 s11 s12 s13 s14) (s := 1) (p := false) (f := eVar 2) (k := (n : Nat)) rfl v3 (by omega) (by omega) rfl
    obtain ⟨a, rfl⟩ : ∃ N : Nat, a = N := ⟨a.toNat, by omega⟩
    have t1 := xSet_ok (i := 11) a4 rfl (by show 11 < 17; decide)
    obtain ⟨d3, r', b1, b2, b3, b4⟩ := V13d_ok (ns := ns) (s9 := s9) (s10 := s10) (s12 := s12) (s13 := s13) (s14 := s14) X a3 (by omega) hr (by omega : a < n) hB
    exact ⟨d3, r', _, b1, b2, b3, xIf_t cnd (xSeq_nx t1 b4)⟩
  · rw [decide_eq_false h] at cnd
    exact ⟨d1, r, s11, v3.mono (by omega), hr, fun x hx => Nat.le_trans (hB x hx) (Nat.le_add_right _ _), xIf_f cnd rfl⟩
theorem V13e_ok (X : Ctx n k rows other F S A hs ks js) {r : Row} (hr : r.length = n) (hB : ∀ x ∈ r, x.natAbs ≤ 2 ^ k) :
    V13e (l10 ns d n rows other F hs (.val (rowT r)) s9 s10 s11 s12 s13 s14) = some (.nx, l10 ns d n rows other F hs (.val (rowT r)) s9 s10 s11 s12 s13 s14) := by
  let e0 : Env' := l10 ns d n rows other F hs (.val (rowT r)) s9 s10 s11 s12 s13 s14
  obtain ⟨b1, g1, h1⟩ := X.f.im r hr hB
  obtain ⟨b2, g2, h2⟩ := X.f.md r hr hB
  have e : b2 = b1 := by
    cases b1 <;> cases b2 <;> simp_all
  subst e
  have t1 := call3_ok (env := e0) (f2 := eVar 2) (f3 := eVar 8) (lst_ok (s := 3) (m := rows) rfl) rfl (var_ok rfl) rfl (var_ok rfl) rfl g1
  have t2 := made_ok (env := e0) (s5 := 5) (s6 := 6) rfl rfl rfl g2
  have t3 := pair_ok (g := g__law_alike) t1 rfl t2 rfl (g_alike_eq (d := .bool b2) trivial (by show 1 ≤ 900000; decide))
  exact xIf_f (bNot_ok (bV_ok t3 rfl rfl)) rfl
theorem W13_ok (X : Ctx n k rows other F S A hs ks js) (hd : BagOk c d) (hc : c + 1000 < 2 ^ 64) (hY : Le Y other) (hYk : 33 * Y + 2 ≤ 2 ^ k) (hk : k ≤ 1000) : ∃ d' s8' s9' s10' s11', BagOk (c + 100) d' ∧
    W13 (l10 ns d n rows other F hs s8 s9 s10 s11 s12 s13 s14) = some (.nx, l10 ns d' n rows other F hs s8' s9' s10' s11' s12 s13 s14) := by
  let e0 : Env' := l10 ns d n rows other F hs s8 s9 s10 s11 s12 s13 s14
  have hr := rng1 (a := aCons (eC (.int 5)) aNil) (env := e0) (e := e0) (n := 5) rfl (by decide)
  rw [W13_eq]
  obtain ⟨env', h1, d', s8', s9', s10', s11', rfl, k1⟩ := for_ok hr (I := fun j env => ∃ d s8 s9 s10 s11, env = l10 ns d n rows other F hs s8 s9 s10 s11 s12 s13 s14 ∧ BagOk (c + 20 * j) d) ⟨d, s8, s9, s10, s11, rfl, hd⟩ (g := gN 9) (F := xSeq V13a (xSeq V13b (xSeq V13c V13e))) (fun j env dd hI hdd => by
    obtain ⟨d1, s8, s9, s10, s11, rfl, k1⟩ := hI
    have hj := lt_of_get hdd
    rw [List.length_map, List.length_range] at hj
    let e1 : Env' := l10 ns d1 n rows other F hs s8 (.val dd) s10 s11 s12 s13 s14
    have hn5 := X.n5
    have z := zero_ok (env := e1) (k := 2) (n := n) (by omega) rfl
    have a1 : V13a e1 = some (.nx, l10 ns d1 n rows other F hs (.val (rowT (zeroR n))) (.val dd) s10 s11 s12 s13 s14) := xSet_ok z rfl (by show 8 < 17; decide)
    obtain ⟨d2, r, s10', b1, b2, b3, b4⟩ := V13b_ok (ns := ns) (s9 := .val dd) (s10 := s10) (s11 := s11) (s12 := s12) (s13 := s13) (s14 := s14) X k1 (by omega) hY hYk hk
    obtain ⟨d3, r', s11', c1, c2, c3, c4⟩ := V13c_ok (ns := ns) (s9 := .val dd) (s10 := s10') (s11 := s11) (s12 := s12) (s13 := s13) (s14 := s14) X b1 (by omega) b2 b3
    have e4 := V13e_ok (ns := ns) (d := d3) (s9 := .val dd) (s10 := s10') (s11 := s11') (s12 := s12) (s13 := s13) (s14 := s14) X c2 (fun x hx => Nat.le_trans (c3 x hx) hYk)
    exact ⟨e1, _, rfl, .inl (xSeq_nx a1 (xSeq_nx b4 (xSeq_nx c4 e4))), d3, _, _, _, _, rfl, c1.mono (by omega)⟩)
  rw [List.length_map, List.length_range] at k1
  exact ⟨d', s8', s9', s10', s11', k1.mono (by omega), h1⟩
end
end K52
set_option Elab.async false
set_option linter.all false
set_option maxRecDepth 100000
set_option maxHeartbeats 1000000
/-! The law: what rows make nothing of. -/
namespace K52
open PySem PySem.Spec L2 Sm
section
variable {ns : List Int} {c n k Y : Nat} {d : D} {rows other F S A : Mat} {hs ks js : List Nat} {s8 s9 s10 s11 s12 s13 s14 : Sl}
theorem W14_ok (X : Ctx n k rows other F S A hs ks js) : W14 (l10 ns d n rows other F hs s8 s9 s10 s11 s12 s13 s14) = some (.nx, l10 ns d n rows other F hs s8 s9 s10 s11 (.val (matT S)) s13 s14) :=
  xSet_ok (call2_ok (env := l10 ns d n rows other F hs s8 s9 s10 s11 s12 s13 s14) (lst_ok (s := 3) (m := rows) rfl) rfl rfl X.f.st) rfl (by show 12 < 17; decide)
theorem W15_ok (X : Ctx n k rows other F S A hs ks js) : W15 (l10 ns d n rows other F hs s8 s9 s10 s11 (.val (matT S)) s13 s14) = some (.nx, l10 ns d n rows other F hs s8 s9 s10 s11 (.val (matT S)) (.val (matT A)) s14) :=
  xSet_ok (call2_ok (env := l10 ns d n rows other F hs s8 s9 s10 s11 (.val (matT S)) s13 s14) (var_ok (s := 12) (d := matT S) rfl) rfl rfl X.f.st3) rfl (by show 13 < 17; decide)
abbrev l15 (ns : List Int) (d : D) (n : Nat) (rows other F : Mat) (hs : List Nat) (S A : Mat) (s8 s9 s10 s11 s14 : Sl) : Env' := l10 ns d n rows other F hs s8 s9 s10 s11 (.val (matT S)) (.val (matT A)) s14
theorem lenT_ok {env : Env'} {s : Nat} {m : Mat} (h : env[s]? = some (.val (matT m))) : eCb pLen (aCons (eVar s) aNil) env = some (.val (.int (m.length : Nat)), env) := by
  refine eCb_ok (aCons_ok (r := .val (matT m)) (e1 := env) (var_ok h) u_aNil) rfl ?_
  unfold matT
  rw [u_pLenT, List.length_map]
theorem W16_ok (X : Ctx n k rows other F S A hs ks js) : W16 (l15 ns d n rows other F hs S A s8 s9 s10 s11 s14) = some (.nx, l15 ns d n rows other F hs S A s8 s9 s10 s11 s14) := by
  let e0 : Env' := l15 ns d n rows other F hs S A s8 s9 s10 s11 s14
  have c1 := isN_ok (env := e0) (call2_ok (env := e0) (var_ok (s := 12) (d := matT S) rfl) rfl rfl X.f.shS) rfl
  have lS := lenT_ok (env := e0) (s := 12) (m := S) rfl
  have lA := lenT_ok (env := e0) (s := 13) (m := A) rfl
  have lF := lenT_ok (env := e0) (s := 5) (m := F) rfl
  have sb : eOp pSub (eVar 2) (eCb pLen (aCons (eVar 5) aNil)) e0 = some (.val (.int ((n : Nat) - (F.length : Nat))), e0) := eOp_ok (var_ok (s := 2) (d := .int (n : Nat)) rfl) lF rfl rfl u_pSub
  have c2 : bE (eOp pNe (eCb pLen (aCons (eVar 12) aNil)) (eOp pSub (eVar 2) (eCb pLen (aCons (eVar 5) aNil)))) e0 = some (false, e0) := by
    rw [u_bE, eOp_ok lS sb rfl rfl pNe_int, decide_eq_true (by have := X.f.lS; omega)]
    rfl
  have c3 : bE (eOp pNe (eCb pLen (aCons (eVar 13) aNil)) (eCb pLen (aCons (eVar 5) aNil))) e0 = some (false, e0) := by
    rw [u_bE, eOp_ok lA lF rfl rfl pNe_int, decide_eq_true (by have := X.f.lA; omega)]
    rfl
  exact xIf_f (bOr_f c1 (bOr_f c2 c3)) rfl
noncomputable abbrev V17i : Ex := xSeq (xSet 14 (eCb pSum (aCons (eLc [15, 16] (lZi (aCons (eVar 8) (aCons (eVar 10) aNil))) (gT 2 (gCons (gN 15) (gCons (gN 16) gNil))) bYes (eOp pMul (eVar 15) (eVar 16))) aNil))) (xIf (bOr (bE (eOp pNe (eVar 14) (eC (.int 0)))) (bNot (bV (eCall g__law_alike (aCons (eCall g_dot (aCons (eVar 8) (aCons (eVar 10) aNil))) (aCons (eVar 14) aNil)))))) (xRet (eC (.bool false))) xNx)
theorem W17_eq : W17 = xFor (lSeq (eVar 12)) (gN 8) (xFor (lSeq (eVar 3)) (gN 10) V17i) := rfl
theorem V17i_ok (X : Ctx n k rows other F S A hs ks js) {s r : Row} (hs' : s ∈ S) (hr : r ∈ rows) :
    V17i (l15 ns d n rows other F hs S A (.val (rowT s)) s9 (.val (rowT r)) s11 s14) = some (.nx, l15 ns d n rows other F hs S A (.val (rowT s)) s9 (.val (rowT r)) s11 (.val (.int 0))) := by
  let e0 : Env' := l15 ns d n rows other F hs S A (.val (rowT s)) s9 (.val (rowT r)) s11 s14
  obtain ⟨z1, z2, z3⟩ := X.f.dot s hs' r hr
  have hi : lZi (aCons (eVar 8) (aCons (eVar 10) aNil)) e0 = some ((s.zip r).map fun p => PyData.tuple [.int p.1, .int p.2], e0) := by
    have h := ziD_rows s r
    show some (ziD (s.map PyData.int) (r.map PyData.int), e0) = _
    rw [h]
  have key : lcF (gT 2 (gCons (gN 15) (gCons (gN 16) gNil))) bYes (eOp pMul (eVar 15) (eVar 16)) [15, 16] ((s.zip r).map fun p => PyData.tuple [.int p.1, .int p.2]) e0 = some ((s.zip r).map fun p => PyData.int (p.1 * p.2), e0) := by
    refine lcF_map _ _ _ fun p hp => ?_
    let e1 : Env' := [.scr ns, .own false d, .val (.int (n : Nat)), .val (matO rows), .val (matO other), .val (matT F), .val (headL hs), .val (.list [matT F, matT F, matT F, .int (F.length : Nat), .int (F.length : Nat)]), .val (rowT s), s9, .val (rowT r), s11, .val (matT S), .val (matT A), s14, .val (.int p.1), .val (.int p.2)]
    have m : eOp pMul (eVar 15) (eVar 16) e1 = some (.val (.int (p.1 * p.2)), e1) := eOp_ok (var_ok (s := 15) (d := .int p.1) rfl) (var_ok (s := 16) (d := .int p.2) rfl) rfl rfl (by rw [u_pMul, if_pos (z3 p hp)])
    exact ⟨e1, e1, _, e1, e1, rfl, rfl, m, rfl, rfl⟩
  have e : ((s.zip r).map fun p => PyData.int (p.1 * p.2)) = ((s.zip r).map fun p => p.1 * p.2).map PyData.int := by
    rw [List.map_map]
    rfl
  rw [e] at key
  have hn5 := X.n5
  have hsl := X.f.lens s hs'
  have hl := eLc_ok hi (show wipeE e0 [15, 16] = e0 from rfl) key (by rw [List.length_map, List.length_map, List.length_zip]; omega)
  have sm := eCb_ok (p := pSum) (aCons_ok hl u_aNil) rfl u_pSum
  have z1' : ((s.zip r).map fun p => p.1 * p.2).sum = 0 := z1
  rw [z1'] at sm
  let e2 : Env' := l15 ns d n rows other F hs S A (.val (rowT s)) s9 (.val (rowT r)) s11 (.val (.int 0))
  have a1 := xSet_ok (i := 14) sm rfl (by show 14 < 17; decide)
  have c1 : bE (eOp pNe (eVar 14) (eC (.int 0))) e2 = some (false, e2) := by
    rw [u_bE, eOp_ok (var_ok (env := e2) (s := 14) (d := .int 0) rfl) (u_eC _) rfl rfl pNe_int]
    rfl
  have t1 := pair_ok (env := e2) (g := g_dot) (var_ok (s := 8) (d := rowT s) rfl) rfl (var_ok (s := 10) (d := rowT r) rfl) rfl z2
  have t2 := pair_ok (env := e2) (g := g__law_alike) t1 rfl (var_ok (s := 14) (d := .int 0) rfl) rfl (g_alike_eq (d := .int 0) trivial (by show 1 ≤ 900000; decide))
  exact xSeq_nx a1 (xIf_f (bOr_f c1 (bNot_ok (bV_ok t2 rfl rfl))) rfl)
theorem W17_ok (X : Ctx n k rows other F S A hs ks js) : ∃ s8' s10' s14', W17 (l15 ns d n rows other F hs S A s8 s9 s10 s11 s14) = some (.nx, l15 ns d n rows other F hs S A s8' s9 s10' s11 s14') := by
  let e0 : Env' := l15 ns d n rows other F hs S A s8 s9 s10 s11 s14
  have hi : lSeq (eVar 12) e0 = some (S.map rowT, e0) := lSeq_ok (r := .val (matT S)) (e1 := e0) (d := matT S) rfl rfl rfl
  rw [W17_eq]
  obtain ⟨env', h1, s8', s10', s14', rfl⟩ := for_ok hi (I := fun _ env => ∃ s8 s10 s14, env = l15 ns d n rows other F hs S A s8 s9 s10 s11 s14) ⟨s8, s10, s14, rfl⟩ (g := gN 8) (F := xFor (lSeq (eVar 3)) (gN 10) V17i) (fun j env dd hI hdd => by
    obtain ⟨s8, s10, s14, rfl⟩ := hI
    rw [List.getElem?_map, Option.map_eq_some_iff] at hdd
    obtain ⟨s, hs', rfl⟩ := hdd
    have hsm := List.mem_of_getElem? hs'
    let e1 : Env' := l15 ns d n rows other F hs S A (.val (rowT s)) s9 s10 s11 s14
    have hi2 : lSeq (eVar 3) e1 = some (rows.map rowT, e1) := lSeq_ok (r := .val (matO rows)) (e1 := e1) (d := matO rows) rfl rfl rfl
    obtain ⟨env2, g1, s10', s14', rfl⟩ := for_ok hi2 (I := fun _ env => ∃ s10 s14, env = l15 ns d n rows other F hs S A (.val (rowT s)) s9 s10 s11 s14) ⟨s10, s14, rfl⟩ (g := gN 10) (F := V17i) (fun j env dd hI hdd => by
      obtain ⟨s10, s14, rfl⟩ := hI
      rw [List.getElem?_map, Option.map_eq_some_iff] at hdd
      obtain ⟨r, hr, rfl⟩ := hdd
      exact ⟨l15 ns d n rows other F hs S A (.val (rowT s)) s9 (.val (rowT r)) s11 s14, _, rfl, .inl (V17i_ok X hsm (List.mem_of_getElem? hr)), _, _, rfl⟩)
    exact ⟨e1, _, rfl, .inl g1, _, _, _, rfl⟩)
  exact ⟨s8', s10', s14', h1⟩
abbrev l18 (ns : List Int) (d : D) (n : Nat) (rows other F : Mat) (js : List Nat) (S A : Mat) (s8 s9 s10 s11 s14 : Sl) : Env' := l4 ns d n rows other (.val (matT F)) (.val (headL js)) (.val (.list [matT F, matT F, matT F, .int (F.length : Nat), .int (F.length : Nat)])) s8 s9 s10 s11 (.val (matT S)) (.val (matT A)) s14
theorem W18_ok (X : Ctx n k rows other F S A hs ks js) : W18 (l15 ns d n rows other F hs S A s8 s9 s10 s11 s14) = some (.nx, l18 ns d n rows other F js S A s8 s9 s10 s11 s14) :=
  xSet_ok (call2_ok (env := l15 ns d n rows other F hs S A s8 s9 s10 s11 s14) (var_ok (s := 13) (d := matT A) rfl) rfl rfl X.f.shA) rfl (by show 6 < 17; decide)
theorem W19_ok (X : Ctx n k rows other F S A hs ks js) : W19 (l18 ns d n rows other F js S A s8 s9 s10 s11 s14) = some (.nx, l18 ns d n rows other F js S A .no s9 s10 s11 s14) := by
  let e0 : Env' := l18 ns d n rows other F js S A s8 s9 s10 s11 s14
  let e1 : Env' := l18 ns d n rows other F js S A .no s9 s10 s11 s14
  have c1 := isN_ok (env := e0) (var_ok (s := 6) (d := headL js) rfl) rfl
  have hi : lSeq (eVar 3) e0 = some (rows.map rowT, e0) := lSeq_ok (r := .val (matO rows)) (e1 := e0) (d := matO rows) rfl rfl rfl
  have key : lcF (gN 8) (bNot (bV (eCall g__law_made (aCons (eVar 13) (aCons (eVar 6) (aCons (eVar 8) aNil)))))) (eVar 8) [8] (rows.map rowT) e1 = some ([], e1) := by
    refine none_over _ _ fun r hr => ?_
    let e2 : Env' := l18 ns d n rows other F js S A (.val (rowT r)) s9 s10 s11 s14
    have t := made_ok (F := A) (hs := js) (env := e2) (s5 := 13) (s6 := 6) rfl rfl rfl (X.f.mdA r hr)
    exact ⟨e2, e2, rfl, bNot_ok (bV_ok t rfl rfl), rfl⟩
  have hl := eLc_ok hi (show wipeE e0 [8] = e1 from rfl) key (Nat.zero_le _)
  have c2 : bE (eOp pNe (eLc [8] (lSeq (eVar 3)) (gN 8) (bNot (bV (eCall g__law_made (aCons (eVar 13) (aCons (eVar 6) (aCons (eVar 8) aNil)))))) (eVar 8)) (eLst aNil)) e0 = some (false, e1) := by
    rw [u_bE, eOp_ok (ra := .fr (headL [])) (rb := .fr (headL [])) (e1 := e1) hl rfl rfl rfl (pNe_head [] [])]
    rfl
  exact xIf_f (bOr_f c1 c2) rfl
theorem W20_ok (X : Ctx n k rows other F S A hs ks js) : W20 (l18 ns d n rows other F js S A s8 s9 s10 s11 s14) = some (.ret (.bool true), l18 ns d n rows other F js S A s8 s9 s10 s11 s14) := by
  let e0 : Env' := l18 ns d n rows other F js S A s8 s9 s10 s11 s14
  have t1 := call2_ok (env := e0) (tup_ok (s := 4) (m := other) rfl) rfl rfl X.f.st2
  have t2 := call2_ok (env := e0) (var_ok (s := 13) (d := matT A) rfl) rfl rfl X.f.st4
  have l1 : eLst (aCons (eCall g_still_rows (aCons (eCb pTuple (aCons (eVar 4) aNil)) (aCons (eVar 2) aNil))) (aCons (eCall g_still_rows (aCons (eVar 13) (aCons (eVar 2) aNil))) aNil)) e0 = some (.fr (.list [matT S, matT S]), e0) := by
    rw [u_eLst, aCons_ok t1 (aCons_ok t2 u_aNil)]
    rfl
  have l2 : eLst (aCons (eVar 12) (aCons (eVar 12) aNil)) e0 = some (.fr (.list [matT S, matT S]), e0) := rfl
  have ok : okD (.list [matT S, matT S]) := ⟨okL_rows S, okL_rows S, trivial⟩
  have sz : szD (.list [matT S, matT S]) ≤ 900000 := by
    have h1 := sz_matT (m := S) X.f.lens X.n5 (show S.length ≤ 20 by have := X.f.lS; have := X.n5; omega)
    have : szD (.list [matT S, matT S]) = 1 + (szD (matT S) + (szD (matT S) + 0)) := rfl
    omega
  exact xRet_ok (pair_ok (g := g__law_alike) l1 rfl l2 rfl (g_alike_eq ok sz)) rfl
end
end K52
set_option Elab.async false
set_option linter.all false
set_option maxRecDepth 100000
set_option maxHeartbeats 1000000
/-! The plain law, whole. -/
namespace K52
open PySem PySem.Spec L2 Sm
theorem pow_1001 {X : Nat} (h : X ≤ 2 ^ 60) : 1001 ^ 7 * X ≤ 2 ^ 130 := by
  have h2 : 1001 ^ 7 * X ≤ 1001 ^ 7 * 2 ^ 60 := Nat.mul_le_mul_left _ h
  have h3 : 1001 ^ 7 * 2 ^ 60 ≤ 2 ^ 130 := by decide
  exact Nat.le_trans h2 h3
theorem law_true (ns : List Int) (hl : ns.length ≤ 63) (hb : ∀ z ∈ ns, Builtin.Int.intBits z ≤ 1048576) : g_law ns = some (.bool true) := by
  obtain ⟨n, d0, n2, n5, b0, w0⟩ := W12_start ns
  obtain ⟨rows, d1, a1, a2, a3, a4, a5⟩ := W3_ok (ns := ns) b0 (by decide) n5
  have x60 : Le (2 ^ 60) rows := a3.mono (by decide)
  have e130 := pow_1001 (Nat.le_refl (2 ^ 60))
  obtain ⟨other, d2, c1, c2, c3, c4, c5, c6⟩ := W4_ok (ns := ns) (b := 131) a4 (by decide) n5 a1 a2 x60 (Nat.lt_of_le_of_lt e130 (by decide)) (by decide) (by decide)
  have y130 : Le (2 ^ 130) other := c3.mono e130
  obtain ⟨F, S, A, hs, ks, js, X⟩ := law_facts (k := 200) n2 n5 a1 a2 x60 rfl c1 c2 y130 (by decide) rfl c4
  have C : Ctx n 200 rows other F S A hs ks js := ⟨X, c4, a1, c1, x60.mono (by decide), y130.mono (by decide), n5, n2, a2, c2, X.lenF⟩
  obtain ⟨d5, f5, w5⟩ := W5_ok (ns := ns) C c5 (by decide)
  have w6 := W6_ok (ns := ns) (d := d5) C
  have w7 := W7_ok (ns := ns) (d := d5) (n := n) (rows := rows) (other := other) (F := F) (hs := hs) (s7 := .no) (s8 := .no) (s9 := .no) (s10 := .no) (s11 := .no) (s12 := .no) (s13 := .no) (s14 := .no)
  have w8 := W8_ok (ns := ns) (d := d5) (s8 := .no) (s9 := .no) (s10 := .no) (s11 := .no) (s12 := .no) (s13 := .no) (s14 := .no) C
  have w9 := W9_ok (ns := ns) (d := d5) (s8 := .no) (s9 := .no) (s10 := .no) (s11 := .no) (s12 := .no) (s13 := .no) (s14 := .no) C
  have w10 := W10_ok (ns := ns) (d := d5) (s8 := .no) (s9 := .no) (s10 := .no) (s11 := .no) (s12 := .no) (s13 := .no) (s14 := .no) C
  obtain ⟨s8, w11⟩ := W11_ok (ns := ns) (d := d5) (s8 := .no) (s9 := .no) (s10 := .no) (s11 := .no) (s12 := .no) (s13 := .no) (s14 := .no) C
  obtain ⟨s8', w12⟩ := W12_ok (ns := ns) (d := d5) (s8 := s8) (s9 := .no) (s10 := .no) (s11 := .no) (s12 := .no) (s13 := .no) (s14 := .no) C
  obtain ⟨d6, t8, t9, t10, t11, g6, w13⟩ := W13_ok (ns := ns) (s8 := s8') (s9 := .no) (s10 := .no) (s11 := .no) (s12 := .no) (s13 := .no) (s14 := .no) C f5 (by decide) y130 (by decide) (by decide)
  have w14 := W14_ok (ns := ns) (d := d6) (s8 := t8) (s9 := t9) (s10 := t10) (s11 := t11) (s12 := .no) (s13 := .no) (s14 := .no) C
  have w15 := W15_ok (ns := ns) (d := d6) (s8 := t8) (s9 := t9) (s10 := t10) (s11 := t11) (s13 := .no) (s14 := .no) C
  have w16 := W16_ok (ns := ns) (d := d6) (s8 := t8) (s9 := t9) (s10 := t10) (s11 := t11) (s14 := .no) C
  obtain ⟨u8, u10, u14, w17⟩ := W17_ok (ns := ns) (d := d6) (s8 := t8) (s9 := t9) (s10 := t10) (s11 := t11) (s14 := .no) C
  have w18 := W18_ok (ns := ns) (d := d6) (s8 := u8) (s9 := t9) (s10 := u10) (s11 := t11) (s14 := u14) C
  have w19 := W19_ok (ns := ns) (d := d6) (s8 := u8) (s9 := t9) (s10 := u10) (s11 := t11) (s14 := u14) C
  have w20 := W20_ok (ns := ns) (d := d6) (s8 := .no) (s9 := t9) (s10 := u10) (s11 := t11) (s14 := u14) C
  have rest := xSeq_nx a5 (xSeq_nx c6 (xSeq_nx w5 (xSeq_nx w6 (xSeq_nx w7 (xSeq_nx w8 (xSeq_nx w9 (xSeq_nx w10 (xSeq_nx w11 (xSeq_nx w12 (xSeq_nx w13 (xSeq_nx w14 (xSeq_nx w15 (xSeq_nx w16 (xSeq_nx w17 (xSeq_nx w18 (xSeq_nx w19 w20))))))))))))))))
  have seq2 : ∀ {G : Ex} {env e1 : Env'} {r : Option (Fl × Env')}, xSeq W1 W2 env = some (.nx, e1) → G e1 = r → xSeq W1 (xSeq W2 G) env = r := fun {G env e1 r} h h2 => by
    rw [u_xSeq] at h ⊢
    rw [Option.bind_eq_some_iff] at h
    obtain ⟨a, ha, h⟩ := h
    rw [ha]
    simp only [Option.bind_some]
    split at h
    · exact xSeq_nx h h2
    · cases h
    · cases h
    · cases h
  have hF := seq2 w0 rest
  rw [← F_law_parts] at hF
  exact runS_ok hF
end K52
set_option Elab.async false
set_option linter.all false
set_option maxRecDepth 100000
set_option maxHeartbeats 1000000
/-! printed by gen.py: the law's end -/
namespace K52
open PySem PySem.Spec PyProof.Rows L2 Sm
theorem all_mk {l : PySem.W.OpenLaw} {w : World} {K : PySem.W.Frag} {h : Heap} {mg : Str → Option Value} {fa : Addr} (hgt : l.prog.given.tree = none) (X : K.In h) (G : h.Ns mainGlobals mg) (hfa : mg "law" = some (.ref fa)) (NS : h.NoSeer)
    {f0 : Addr} {od0 an0 : Option Addr} {sl0 : Array (Option Value)} {oc0 kV0 dc0 pm0 cd0 ct0 : Value} (a0 : PySem.W.nsIn K mainGlobals "dot" = some (some (.ref f0))) (l0 : K.lookup f0 = some ⟨oc0, od0, .func (PySem.W.fnOf "dot" "dot" (defArgs s_dot) (defBody s_dot) (defScope s_dot) .none kV0 dc0 pm0 an0 cd0 ct0), sl0⟩) (c0 : PySem.W.codeIn K cd0 "dot" = true)
    {f1 : Addr} {od1 an1 : Option Addr} {sl1 : Array (Option Value)} {oc1 kV1 dc1 pm1 cd1 ct1 : Value} (a1 : PySem.W.nsIn K mainGlobals "minus" = some (some (.ref f1))) (l1 : K.lookup f1 = some ⟨oc1, od1, .func (PySem.W.fnOf "minus" "minus" (defArgs s_minus) (defBody s_minus) (defScope s_minus) .none kV1 dc1 pm1 an1 cd1 ct1), sl1⟩) (c1 : PySem.W.codeIn K cd1 "minus" = true)
    {f2 : Addr} {od2 an2 : Option Addr} {sl2 : Array (Option Value)} {oc2 kV2 dc2 pm2 cd2 ct2 : Value} (a2 : PySem.W.nsIn K mainGlobals "put_least_ahead" = some (some (.ref f2))) (l2 : K.lookup f2 = some ⟨oc2, od2, .func (PySem.W.fnOf "put_least_ahead" "put_least_ahead" (defArgs s_put_least_ahead) (defBody s_put_least_ahead) (defScope s_put_least_ahead) .none kV2 dc2 pm2 an2 cd2 ct2), sl2⟩) (c2 : PySem.W.codeIn K cd2 "put_least_ahead" = true)
    {f3 : Addr} {od3 an3 : Option Addr} {sl3 : Array (Option Value)} {oc3 kV3 dc3 pm3 cd3 ct3 : Value} (a3 : PySem.W.nsIn K mainGlobals "cleared" = some (some (.ref f3))) (l3 : K.lookup f3 = some ⟨oc3, od3, .func (PySem.W.fnOf "cleared" "cleared" (defArgs s_cleared) (defBody s_cleared) (defScope s_cleared) .none kV3 dc3 pm3 an3 cd3 ct3), sl3⟩) (c3 : PySem.W.codeIn K cd3 "cleared" = true)
    {f4 : Addr} {od4 an4 : Option Addr} {sl4 : Array (Option Value)} {oc4 kV4 dc4 pm4 cd4 ct4 : Value} (a4 : PySem.W.nsIn K mainGlobals "leads_by" = some (some (.ref f4))) (l4 : K.lookup f4 = some ⟨oc4, od4, .func (PySem.W.fnOf "leads_by" "leads_by" (defArgs s_leads_by) (defBody s_leads_by) (defScope s_leads_by) .none kV4 dc4 pm4 an4 cd4 ct4), sl4⟩) (c4 : PySem.W.codeIn K cd4 "leads_by" = true)
    {f5 : Addr} {od5 an5 : Option Addr} {sl5 : Array (Option Value)} {oc5 kV5 dc5 pm5 cd5 ct5 : Value} (a5 : PySem.W.nsIn K mainGlobals "plain_form" = some (some (.ref f5))) (l5 : K.lookup f5 = some ⟨oc5, od5, .func (PySem.W.fnOf "plain_form" "plain_form" (defArgs s_plain_form) (defBody s_plain_form) (defScope s_plain_form) .none kV5 dc5 pm5 an5 cd5 ct5), sl5⟩) (c5 : PySem.W.codeIn K cd5 "plain_form" = true)
    {f6 : Addr} {od6 an6 : Option Addr} {sl6 : Array (Option Value)} {oc6 kV6 dc6 pm6 cd6 ct6 : Value} (a6 : PySem.W.nsIn K mainGlobals "unit" = some (some (.ref f6))) (l6 : K.lookup f6 = some ⟨oc6, od6, .func (PySem.W.fnOf "unit" "unit" (defArgs s_unit) (defBody s_unit) (defScope s_unit) .none kV6 dc6 pm6 an6 cd6 ct6), sl6⟩) (c6 : PySem.W.codeIn K cd6 "unit" = true)
    {f7 : Addr} {od7 an7 : Option Addr} {sl7 : Array (Option Value)} {oc7 kV7 dc7 pm7 cd7 ct7 : Value} (a7 : PySem.W.nsIn K mainGlobals "still_rows" = some (some (.ref f7))) (l7 : K.lookup f7 = some ⟨oc7, od7, .func (PySem.W.fnOf "still_rows" "still_rows" (defArgs s_still_rows) (defBody s_still_rows) (defScope s_still_rows) .none kV7 dc7 pm7 an7 cd7 ct7), sl7⟩) (c7 : PySem.W.codeIn K cd7 "still_rows" = true)
    {f8 : Addr} {od8 an8 : Option Addr} {sl8 : Array (Option Value)} {oc8 kV8 dc8 pm8 cd8 ct8 : Value} (a8 : PySem.W.nsIn K mainGlobals "rank" = some (some (.ref f8))) (l8 : K.lookup f8 = some ⟨oc8, od8, .func (PySem.W.fnOf "rank" "rank" (defArgs s_rank) (defBody s_rank) (defScope s_rank) .none kV8 dc8 pm8 an8 cd8 ct8), sl8⟩) (c8 : PySem.W.codeIn K cd8 "rank" = true)
    {f9 : Addr} {od9 an9 : Option Addr} {sl9 : Array (Option Value)} {oc9 kV9 dc9 pm9 cd9 ct9 : Value} (a9 : PySem.W.nsIn K mainGlobals "is_made_of" = some (some (.ref f9))) (l9 : K.lookup f9 = some ⟨oc9, od9, .func (PySem.W.fnOf "is_made_of" "is_made_of" (defArgs s_is_made_of) (defBody s_is_made_of) (defScope s_is_made_of) .none kV9 dc9 pm9 an9 cd9 ct9), sl9⟩) (c9 : PySem.W.codeIn K cd9 "is_made_of" = true)
    {f10 : Addr} {od10 an10 : Option Addr} {sl10 : Array (Option Value)} {oc10 kV10 dc10 pm10 cd10 ct10 : Value} (a10 : PySem.W.nsIn K mainGlobals "_law_bag" = some (some (.ref f10))) (l10 : K.lookup f10 = some ⟨oc10, od10, .func (PySem.W.fnOf "_law_bag" "_law_bag" (defArgs s__law_bag) (defBody s__law_bag) (defScope s__law_bag) .none kV10 dc10 pm10 an10 cd10 ct10), sl10⟩) (c10 : PySem.W.codeIn K cd10 "_law_bag" = true)
    {f11 : Addr} {od11 an11 : Option Addr} {sl11 : Array (Option Value)} {oc11 kV11 dc11 pm11 cd11 ct11 : Value} (a11 : PySem.W.nsIn K mainGlobals "_law_take" = some (some (.ref f11))) (l11 : K.lookup f11 = some ⟨oc11, od11, .func (PySem.W.fnOf "_law_take" "_law_take" (defArgs s__law_take) (defBody s__law_take) (defScope s__law_take) .none kV11 dc11 pm11 an11 cd11 ct11), sl11⟩) (c11 : PySem.W.codeIn K cd11 "_law_take" = true)
    {f12 : Addr} {od12 an12 : Option Addr} {sl12 : Array (Option Value)} {oc12 kV12 dc12 pm12 cd12 ct12 : Value} (a12 : PySem.W.nsIn K mainGlobals "_law_some" = some (some (.ref f12))) (l12 : K.lookup f12 = some ⟨oc12, od12, .func (PySem.W.fnOf "_law_some" "_law_some" (defArgs s__law_some) (defBody s__law_some) (defScope s__law_some) .none kV12 dc12 pm12 an12 cd12 ct12), sl12⟩) (c12 : PySem.W.codeIn K cd12 "_law_some" = true)
    {f13 : Addr} {od13 an13 : Option Addr} {sl13 : Array (Option Value)} {oc13 kV13 dc13 pm13 cd13 ct13 : Value} (a13 : PySem.W.nsIn K mainGlobals "_law_alike" = some (some (.ref f13))) (l13 : K.lookup f13 = some ⟨oc13, od13, .func (PySem.W.fnOf "_law_alike" "_law_alike" (defArgs s__law_alike) (defBody s__law_alike) (defScope s__law_alike) .none kV13 dc13 pm13 an13 cd13 ct13), sl13⟩) (c13 : PySem.W.codeIn K cd13 "_law_alike" = true)
    {f14 : Addr} {od14 an14 : Option Addr} {sl14 : Array (Option Value)} {oc14 kV14 dc14 pm14 cd14 ct14 : Value} (a14 : PySem.W.nsIn K mainGlobals "_law_number" = some (some (.ref f14))) (l14 : K.lookup f14 = some ⟨oc14, od14, .func (PySem.W.fnOf "_law_number" "_law_number" (defArgs s__law_number) (defBody s__law_number) (defScope s__law_number) .none kV14 dc14 pm14 an14 cd14 ct14), sl14⟩) (c14 : PySem.W.codeIn K cd14 "_law_number" = true)
    {f15 : Addr} {od15 an15 : Option Addr} {sl15 : Array (Option Value)} {oc15 kV15 dc15 pm15 cd15 ct15 : Value} (a15 : PySem.W.nsIn K mainGlobals "_law_sum" = some (some (.ref f15))) (l15 : K.lookup f15 = some ⟨oc15, od15, .func (PySem.W.fnOf "_law_sum" "_law_sum" (defArgs s__law_sum) (defBody s__law_sum) (defScope s__law_sum) .none kV15 dc15 pm15 an15 cd15 ct15), sl15⟩) (c15 : PySem.W.codeIn K cd15 "_law_sum" = true)
    {f16 : Addr} {od16 an16 : Option Addr} {sl16 : Array (Option Value)} {oc16 kV16 dc16 pm16 cd16 ct16 : Value} (a16 : PySem.W.nsIn K mainGlobals "_law_otherwise" = some (some (.ref f16))) (l16 : K.lookup f16 = some ⟨oc16, od16, .func (PySem.W.fnOf "_law_otherwise" "_law_otherwise" (defArgs s__law_otherwise) (defBody s__law_otherwise) (defScope s__law_otherwise) .none kV16 dc16 pm16 an16 cd16 ct16), sl16⟩) (c16 : PySem.W.codeIn K cd16 "_law_otherwise" = true)
    {f17 : Addr} {od17 an17 : Option Addr} {sl17 : Array (Option Value)} {oc17 kV17 dc17 pm17 cd17 ct17 : Value} (a17 : PySem.W.nsIn K mainGlobals "_law_shape" = some (some (.ref f17))) (l17 : K.lookup f17 = some ⟨oc17, od17, .func (PySem.W.fnOf "_law_shape" "_law_shape" (defArgs s__law_shape) (defBody s__law_shape) (defScope s__law_shape) .none kV17 dc17 pm17 an17 cd17 ct17), sl17⟩) (c17 : PySem.W.codeIn K cd17 "_law_shape" = true)
    {f18 : Addr} {od18 an18 : Option Addr} {sl18 : Array (Option Value)} {oc18 kV18 dc18 pm18 cd18 ct18 : Value} (a18 : PySem.W.nsIn K mainGlobals "_law_made" = some (some (.ref f18))) (l18 : K.lookup f18 = some ⟨oc18, od18, .func (PySem.W.fnOf "_law_made" "_law_made" (defArgs s__law_made) (defBody s__law_made) (defScope s__law_made) .none kV18 dc18 pm18 an18 cd18 ct18), sl18⟩) (c18 : PySem.W.codeIn K cd18 "_law_made" = true)
    {f19 : Addr} {od19 an19 : Option Addr} {sl19 : Array (Option Value)} {oc19 kV19 dc19 pm19 cd19 ct19 : Value} (a19 : PySem.W.nsIn K mainGlobals "law" = some (some (.ref f19))) (l19 : K.lookup f19 = some ⟨oc19, od19, .func (PySem.W.fnOf "law" "law" (defArgs s_law) (defBody s_law) (defScope s_law) .none kV19 dc19 pm19 an19 cd19 ct19), sl19⟩) (c19 : PySem.W.codeIn K cd19 "law" = true)
    (z_abs : PySem.W.nsIn K mainGlobals "abs" = some none)
    (z_all : PySem.W.nsIn K mainGlobals "all" = some none)
    (z_bool : PySem.W.nsIn K mainGlobals "bool" = some none)
    (z_enumerate : PySem.W.nsIn K mainGlobals "enumerate" = some none)
    (z_int : PySem.W.nsIn K mainGlobals "int" = some none)
    (z_isinstance : PySem.W.nsIn K mainGlobals "isinstance" = some none)
    (z_len : PySem.W.nsIn K mainGlobals "len" = some none)
    (z_list : PySem.W.nsIn K mainGlobals "list" = some none)
    (z_min : PySem.W.nsIn K mainGlobals "min" = some none)
    (z_range : PySem.W.nsIn K mainGlobals "range" = some none)
    (z_str : PySem.W.nsIn K mainGlobals "str" = some none)
    (z_sum : PySem.W.nsIn K mainGlobals "sum" = some none)
    (z_tuple : PySem.W.nsIn K mainGlobals "tuple" = some none)
    (z_zip : PySem.W.nsIn K mainGlobals "zip" = some none)
    {cc PP : Addr} (tb : h.get? PP = some (PySem.W.tabObj #[])) (ec : cd2 = .ref cc) (ch : PySem.W.codeHdIn K cc PP = true) (pn : K.lookup PP = none)
    (hlaw : ∀ ns : List Int, ns.length ≤ 63 → (∀ z ∈ ns, Builtin.Int.intBits z ≤ 1048576) → g_law ns = some (.bool true)) :
    ∃ K' : PySem.W.Frag, K'.In h ∧ LamX.LawAtS l w K' CX0 47 63 "script" mg fa h := by
  obtain ⟨L, KX, hN, hP⟩ := seer_frag X NS
  refine ⟨K ++ L, KX, ?_⟩
  subst ec
  let T : List (Addr × Str) := [(PP, (("put_least_ahead" : Str) ++ (".<locals>." : Str)) ++ ("<lambda>" : Str))]
  have F0 : FunC (K ++ L) "dot" "dot" s_dot f0 _ (fun _ => True) := funC_app l0 c0 trivial
  have g0 := PySem.W.mg_of X G a0
  have F1 : FunC (K ++ L) "minus" "minus" s_minus f1 _ (fun _ => True) := funC_app l1 c1 trivial
  have g1 := PySem.W.mg_of X G a1
  have F2 : FunC (K ++ L) "put_least_ahead" "put_least_ahead" s_put_least_ahead f2 _ (fun v => v = .ref cc) := funC_app l2 c2 rfl
  have g2 := PySem.W.mg_of X G a2
  have F3 : FunC (K ++ L) "cleared" "cleared" s_cleared f3 _ (fun _ => True) := funC_app l3 c3 trivial
  have g3 := PySem.W.mg_of X G a3
  have F4 : FunC (K ++ L) "leads_by" "leads_by" s_leads_by f4 _ (fun _ => True) := funC_app l4 c4 trivial
  have g4 := PySem.W.mg_of X G a4
  have F5 : FunC (K ++ L) "plain_form" "plain_form" s_plain_form f5 _ (fun _ => True) := funC_app l5 c5 trivial
  have g5 := PySem.W.mg_of X G a5
  have F6 : FunC (K ++ L) "unit" "unit" s_unit f6 _ (fun _ => True) := funC_app l6 c6 trivial
  have g6 := PySem.W.mg_of X G a6
  have F7 : FunC (K ++ L) "still_rows" "still_rows" s_still_rows f7 _ (fun _ => True) := funC_app l7 c7 trivial
  have g7 := PySem.W.mg_of X G a7
  have F8 : FunC (K ++ L) "rank" "rank" s_rank f8 _ (fun _ => True) := funC_app l8 c8 trivial
  have g8 := PySem.W.mg_of X G a8
  have F9 : FunC (K ++ L) "is_made_of" "is_made_of" s_is_made_of f9 _ (fun _ => True) := funC_app l9 c9 trivial
  have g9 := PySem.W.mg_of X G a9
  have F10 : FunC (K ++ L) "_law_bag" "_law_bag" s__law_bag f10 _ (fun _ => True) := funC_app l10 c10 trivial
  have g10 := PySem.W.mg_of X G a10
  have F11 : FunC (K ++ L) "_law_take" "_law_take" s__law_take f11 _ (fun _ => True) := funC_app l11 c11 trivial
  have g11 := PySem.W.mg_of X G a11
  have F12 : FunC (K ++ L) "_law_some" "_law_some" s__law_some f12 _ (fun _ => True) := funC_app l12 c12 trivial
  have g12 := PySem.W.mg_of X G a12
  have F13 : FunC (K ++ L) "_law_alike" "_law_alike" s__law_alike f13 _ (fun _ => True) := funC_app l13 c13 trivial
  have g13 := PySem.W.mg_of X G a13
  have F14 : FunC (K ++ L) "_law_number" "_law_number" s__law_number f14 _ (fun _ => True) := funC_app l14 c14 trivial
  have g14 := PySem.W.mg_of X G a14
  have F15 : FunC (K ++ L) "_law_sum" "_law_sum" s__law_sum f15 _ (fun _ => True) := funC_app l15 c15 trivial
  have g15 := PySem.W.mg_of X G a15
  have F16 : FunC (K ++ L) "_law_otherwise" "_law_otherwise" s__law_otherwise f16 _ (fun _ => True) := funC_app l16 c16 trivial
  have g16 := PySem.W.mg_of X G a16
  have F17 : FunC (K ++ L) "_law_shape" "_law_shape" s__law_shape f17 _ (fun _ => True) := funC_app l17 c17 trivial
  have g17 := PySem.W.mg_of X G a17
  have F18 : FunC (K ++ L) "_law_made" "_law_made" s__law_made f18 _ (fun _ => True) := funC_app l18 c18 trivial
  have g18 := PySem.W.mg_of X G a18
  have F19 : FunC (K ++ L) "law" "law" s_law f19 _ (fun _ => True) := funC_app l19 c19 trivial
  have g19 := PySem.W.mg_of X G a19
  have y_abs := PySem.W.mg_none_of X G z_abs
  have y_all := PySem.W.mg_none_of X G z_all
  have y_bool := PySem.W.mg_none_of X G z_bool
  have y_enumerate := PySem.W.mg_none_of X G z_enumerate
  have y_int := PySem.W.mg_none_of X G z_int
  have y_isinstance := PySem.W.mg_none_of X G z_isinstance
  have y_len := PySem.W.mg_none_of X G z_len
  have y_list := PySem.W.mg_none_of X G z_list
  have y_min := PySem.W.mg_none_of X G z_min
  have y_range := PySem.W.mg_none_of X G z_range
  have y_str := PySem.W.mg_none_of X G z_str
  have y_sum := PySem.W.mg_none_of X G z_sum
  have y_tuple := PySem.W.mg_none_of X G z_tuple
  have y_zip := PySem.W.mg_none_of X G z_zip
  have e := hfa.symm.trans g19
  cases e
  refine ⟨PySem.W.fnOf "law" "law" (defArgs s_law) (defBody s_law) (defScope s_law) .none kV19 dc19 pm19 an19 cd19 ct19, [(cc, PP)], spS (K ++ L) T g_law, ?_, ?_, ?_, fun s u => ?_, fun H a ns hl hb hc hS => ?_, fun base KB nsb TB => ?_⟩
  · intro p hp
    obtain rfl := List.mem_singleton.mp hp
    exact tb
  · intro p hp
    obtain rfl := List.mem_singleton.mp hp
    exact hP _ tb pn
  · intro p hp
    obtain rfl := List.mem_singleton.mp hp
    exact PySem.W.codeHd_of_K X ch
  · exact .of_eq rfl
  · refine ⟨fun _ => False, a, ns, .bool true, rfl, hlaw ns hl hb, ?_, fun b z => z.elim, ?_, fun v H' _ _ _ r => r⟩
    · intro p hp
      obtain rfl := List.mem_singleton.mp hp
      exact LamX.TabS.nil (hc _ (List.Mem.head _))
    · rcases hS with (z | z) | z
      · exact .inl ⟨z, fun q => q.elim⟩
      · exact .inr (.inl z)
      · exact .inr (.inr (.inr z))
  · have hB := hN base KB
    have TB0 := TB _ (List.Mem.head _)
    have hmT : (PP, ((("put_least_ahead" : Str) ++ (".<locals>." : Str)) ++ ("<lambda>" : Str))) ∈ T := List.Mem.head _
    have hu : ∀ p ∈ T, p.1 = PP → p.2 = ((("put_least_ahead" : Str) ++ (".<locals>." : Str)) ++ ("<lambda>" : Str)) := fun p hp _ => by
      obtain rfl := List.mem_singleton.mp hp
      rfl
    have H0 := h_dot (P := l.prog) (w := w) (T := T) (base := base) (mg := mg) hB hgt y_sum y_zip F0 g0
    have H1 := h_minus (P := l.prog) (w := w) (T := T) (base := base) (mg := mg) hB hgt y_zip F1 g1
    have H2 := h_put_least_ahead (P := l.prog) (w := w) (T := T) (base := base) (mg := mg) hB hgt y_abs y_len y_min y_range TB0 hmT hu F2 g2
    have H3 := h_cleared (P := l.prog) (w := w) (T := T) (base := base) (mg := mg) hB hgt y_all y_len y_range H1 H2 F3 g3
    have H4 := h_leads_by (P := l.prog) (w := w) (T := T) (base := base) (mg := mg) hB hgt y_len y_range H3 F4 g4
    have H5 := h_plain_form (P := l.prog) (w := w) (T := T) (base := base) (mg := mg) hB hgt y_enumerate y_len y_list y_range y_tuple H4 H1 F5 g5
    have H6 := h_unit (P := l.prog) (w := w) (T := T) (base := base) (mg := mg) hB hgt y_int y_range F6 g6
    have H7 := h_still_rows (P := l.prog) (w := w) (T := T) (base := base) (mg := mg) hB hgt y_len y_range H4 H5 H6 F7 g7
    have H8 := h_rank (P := l.prog) (w := w) (T := T) (base := base) (mg := mg) hB hgt y_len H5 F8 g8
    have H9 := h_is_made_of (P := l.prog) (w := w) (T := T) (base := base) (mg := mg) hB hgt H5 F9 g9
    have H10 := h__law_bag (P := l.prog) (w := w) (T := T) (base := base) (mg := mg) hB hgt y_abs F10 g10
    have H11 := h__law_take (P := l.prog) (w := w) (T := T) (base := base) (mg := mg) hB hgt y_int F11 g11
    have H12 := h__law_some (P := l.prog) (w := w) (T := T) (base := base) (mg := mg) hB hgt y_len H11 F12 g12
    have H13 := h__law_alike (P := l.prog) (w := w) (T := T) (base := base) (mg := mg) hB hgt y_bool y_int y_isinstance y_len y_list y_str y_tuple y_zip F13 g13
    have H14 := h__law_number (P := l.prog) (w := w) (T := T) (base := base) (mg := mg) hB hgt H12 H11 F14 g14
    have H15 := h__law_sum (P := l.prog) (w := w) (T := T) (base := base) (mg := mg) hB hgt y_tuple y_zip F15 g15
    have H16 := h__law_otherwise (P := l.prog) (w := w) (T := T) (base := base) (mg := mg) hB hgt y_len y_list y_range y_tuple H12 H15 H11 F16 g16
    have H17 := h__law_shape (P := l.prog) (w := w) (T := T) (base := base) (mg := mg) hB hgt y_enumerate y_range F17 g17
    have H18 := h__law_made (P := l.prog) (w := w) (T := T) (base := base) (mg := mg) hB hgt y_int y_zip H15 F18 g18
    exact fn_S F19 sc_law (by decide) (b_law (P := l.prog) (w := w) (T := T) (base := base) (mg := mg) hB hgt y_isinstance y_len y_list y_range y_sum y_tuple y_zip H13 H10 H18 H14 H16 H17 H12 H15 H11 H0 H9 H5 H8 H7)
end K52
open PySem PySem.W PyProof.Rows
set_option maxHeartbeats 0 in
theorem PySem.Challenge.cw_worknets_k52_rows_of_integers_put_otherw_holds : PySem.Challenge.rw_worknets_k52_rows_of_integers_put_otherw.Holds := by
  w_on; o_law; k_head; (case hw => w_witness2)
  k_fill
  refine Sm.walk_seer (l := PySem.Challenge.rw_worknets_k52_rows_of_integers_put_otherw) (n := 63) (k := 47) (x := "script") rfl (by decide) rfl ⟨rfl, by decide, by decide⟩ (by decide +kernel) ?F
  case F =>
    intro w mg fa h Y G hmg NS
    refine' K52.all_mk (l := PySem.Challenge.rw_worknets_k52_rows_of_integers_put_otherw) rfl (PySem.W.km_in_of Y) G hmg NS ?a0 ?l0 ?c0 ?a1 ?l1 ?c1 ?a2 ?l2 ?c2 ?a3 ?l3 ?c3 ?a4 ?l4 ?c4 ?a5 ?l5 ?c5 ?a6 ?l6 ?c6 ?a7 ?l7 ?c7 ?a8 ?l8 ?c8 ?a9 ?l9 ?c9 ?a10 ?l10 ?c10 ?a11 ?l11 ?c11 ?a12 ?l12 ?c12 ?a13 ?l13 ?c13 ?a14 ?l14 ?c14 ?a15 ?l15 ?c15 ?a16 ?l16 ?c16 ?a17 ?l17 ?c17 ?a18 ?l18 ?c18 ?a19 ?l19 ?c19 ?z_abs ?z_all ?z_bool ?z_enumerate ?z_int ?z_isinstance ?z_len ?z_list ?z_min ?z_range ?z_str ?z_sum ?z_tuple ?z_zip ?tb ?ec ?ch ?pn K52.law_true
    (case a0 => k_is); (case l0 => k_is); (case c0 => k_is)
    (case a1 => k_is); (case l1 => k_is); (case c1 => k_is)
    (case a2 => k_is); (case l2 => k_is); (case c2 => k_is)
    (case a3 => k_is); (case l3 => k_is); (case c3 => k_is)
    (case a4 => k_is); (case l4 => k_is); (case c4 => k_is)
    (case a5 => k_is); (case l5 => k_is); (case c5 => k_is)
    (case a6 => k_is); (case l6 => k_is); (case c6 => k_is)
    (case a7 => k_is); (case l7 => k_is); (case c7 => k_is)
    (case a8 => k_is); (case l8 => k_is); (case c8 => k_is)
    (case a9 => k_is); (case l9 => k_is); (case c9 => k_is)
    (case a10 => k_is); (case l10 => k_is); (case c10 => k_is)
    (case a11 => k_is); (case l11 => k_is); (case c11 => k_is)
    (case a12 => k_is); (case l12 => k_is); (case c12 => k_is)
    (case a13 => k_is); (case l13 => k_is); (case c13 => k_is)
    (case a14 => k_is); (case l14 => k_is); (case c14 => k_is)
    (case a15 => k_is); (case l15 => k_is); (case c15 => k_is)
    (case a16 => k_is); (case l16 => k_is); (case c16 => k_is)
    (case a17 => k_is); (case l17 => k_is); (case c17 => k_is)
    (case a18 => k_is); (case l18 => k_is); (case c18 => k_is)
    (case a19 => k_is); (case l19 => k_is); (case c19 => k_is)
    (case z_abs => k_is)
    (case z_all => k_is)
    (case z_bool => k_is)
    (case z_enumerate => k_is)
    (case z_int => k_is)
    (case z_isinstance => k_is)
    (case z_len => k_is)
    (case z_list => k_is)
    (case z_min => k_is)
    (case z_range => k_is)
    (case z_str => k_is)
    (case z_sum => k_is)
    (case z_tuple => k_is)
    (case z_zip => k_is)
    (case tb => exact PySem.W.km_tabs_of Y _ (List.Mem.head _)); (case ec => exact rfl); (case ch => kernel_rfl); (case pn => kernel_rfl)
