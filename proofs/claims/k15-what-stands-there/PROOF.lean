import PyProof.Rows.All
import Wide.All
import OpenK.AllK
import Wide.FinOn
import HandS.ForMost
import HandS.ForExc
import HandS.Lambda
import HandS.TupAny
import HandS.TupMul
import HandS.Deep
import HandS.Walk
import HandS.Conv
import HandS.SortInts
import HandS.RaiseMore
import HandS.Flow
import KE.GoesMore
import KE.GoesEnum
import HandS.More
import HandS.IsInst
import HandS.Text
import KE.IntTextLaws
import HandS.Codes
import HandS.TupLe
import HandS.SortOrd
import HandS.DictTup
import HandS.SortRule
import HandS.Strs
import HandS.SetFor
import KE.KDictPairs
import HandS.TupLen
import HandS.Iter
import HandS.ExcInit
import HandS.ExcIs
import HandS.ExcField
import KE.KExcIs
import HandS.EndTab
import KE.DataFind
import HandS.TryOnly
import KE.KDflt
import HandS.Nested
import HandS.SortKw
import KE.SortUse
import HandS.Ends
import PySem.Challenge.RW_drumlay_k15_what_stands_there
set_option Elab.async false
set_option linter.all false
set_option maxRecDepth 100000
set_option maxHeartbeats 4000000
set_option autoImplicit false
namespace Dl
open PySem L2

/-! ### data -/
inductive D where
  | non | bl (b : Bool) | int (i : Int) | str (s : Str) | opq (v : V)
  | tup (xs : List D) | lst (xs : List D) | fz (xs : List D) | tk (xs : List D)
  | dK (kvs : List (Key × D)) | dT (kvs : List (List Key × D))
  | lkK (kvs : List (Key × D)) | lkT (o : Obj) (ws : List (List Key × V)) (kvs : List (List Key × D))
  | obj (C : Addr) (fs : List (Str × D)) | tg (v : V) (d : D)
  /-- a thing that never changes, by what is tracked of it -/
  | fn (Q : Addr → List (Addr × HO) → Prop)

abbrev Fp := Addr → Prop
def leaf : D → Option V
  | .non => some .non
  | .bl b => some (.bl b)
  | .int i => some (.int i)
  | .str s => some (.str s)
  | .opq v => some v
  | _ => none
def kids : D → List D
  | .tup xs => xs
  | .tk xs => xs
  | .lst xs => xs
  | .fz xs => xs
  | .dK kvs => kvs.map (·.2)
  | .dT kvs => kvs.map (·.2)
  | .lkK kvs => kvs.map (·.2)
  | .lkT _ _ kvs => kvs.map (·.2)
  | .obj _ fs => fs.map (·.2)
  | _ => []
def isMut : D → Bool
  | .lst _ => true
  | .dK _ => true
  | .dT _ => true
  | .lkK _ => true
  | .lkT _ _ _ => true
  | .obj _ _ => true
  | _ => false
def Fzl (K : PySem.W.Frag) (H : Hp) (a : Addr) (vs : List V) : Prop :=
  (∃ o, H a = some (.frz o (.lst vs))) ∨ (∃ (o : Obj) (its : Array Value) (n : Nat), K.lookup a = some o ∧ o.cls = .type "list" ∧ o.dict = none ∧ o.data = .seq its n ∧ its.size ≤ sizeLine ∧ Vals vs its.toList)
/-- what is never written: tuples, other things known by one object -/
def Stay (u : HO) : Prop := (∃ xs, u = .tup xs) ∨ (∃ φ, u = .ext φ) ∨ ∃ o xs, u = .frz o (.tup xs)
def Node (K : PySem.W.Frag) (H : Hp) : D → Addr → List V → Prop
  | .tup _, a, vs => SqT K H a vs
  | .tk _, a, vs => H a = some (.tup vs)
  | .lst _, a, vs => H a = some (.lst vs)
  | .fz _, a, vs => Fzl K H a vs
  | .dK kvs, a, vs => H a = some (.dK ((kvs.map (·.1)).zip vs))
  | .dT kvs, a, vs => H a = some (.dT ((kvs.map (·.1)).zip vs))
  | .lkK kvs, a, vs => ∃ o, H a = some (.frz o (.dK ((kvs.map (·.1)).zip vs)))
  | .lkT o ws kvs, a, vs => H a = some (.frz o (.dT ws)) ∧ ws = (kvs.map (·.1)).zip vs
  | .obj C fs, a, vs => ∃ dx, H a = some (.ins C dx ((fs.map (·.1)).zip vs))
  | .fn Q, a, _ => ∃ L, Q a L ∧ ∀ p ∈ L, Stay p.2 ∧ H p.1 = some p.2
  | _, _, _ => False

/-- apart: each cell with its own footprint, all within F -/
def Sep (R : V → D → Fp → Prop) : List (V × D) → Fp → Prop
  | [], _ => True
  | (v, d) :: cs, F => ∃ F1 F2 : Fp, R v d F1 ∧ Sep R cs F2 ∧ (∀ x, F1 x → ¬ F2 x) ∧ (∀ x, F1 x → F x) ∧ ∀ x, F2 x → F x

def Own (K : PySem.W.Frag) (H : Hp) : Nat → V → D → Fp → Prop
  | 0, v, d, _ => leaf d = some v
  | n + 1, v, d, F => leaf d = some v ∨ (∃ e, d = .tg v e ∧ Own K H n v e F) ∨
      ∃ a vs, v = .ref a ∧ Node K H d a vs ∧ vs.length = (kids d).length ∧ ∃ F' : Fp, Sep (Own K H n) (vs.zip (kids d)) F' ∧ (∀ x, F' x → F x) ∧ (isMut d = true → F a ∧ ¬ F' a)
def OwnE (K : PySem.W.Frag) (H : Hp) (v : V) (d : D) (F : Fp) : Prop := ∃ n, Own K H n v d F

/-- tuples and frozen things stay -/
def Tx (H H' : Hp) : Prop := ∀ a, (∀ xs, H a = some (.tup xs) → H' a = some (.tup xs)) ∧ (∀ o u, H a = some (.frz o u) → H' a = some (.frz o u)) ∧ ∀ φ, H a = some (.ext φ) → H' a = some (.ext φ)
theorem Tx.refl (H : Hp) : Tx H H := fun _ => ⟨fun _ h => h, fun _ _ h => h, fun _ h => h⟩
theorem Tx.trans {H H1 H2 : Hp} (a : Tx H H1) (b : Tx H1 H2) : Tx H H2 := fun x => ⟨fun xs h => (b x).1 xs ((a x).1 xs h), fun o u h => (b x).2.1 o u ((a x).2.1 o u h), fun o h => (b x).2.2 o ((a x).2.2 o h)⟩
theorem Tx.same {H H' : Hp} (s : Same H H') : Tx H H' := fun x => ⟨fun xs h => s x _ h, fun o u h => s x _ h, fun o h => s x _ h⟩
theorem Tx.rd {H H' : Hp} (t : Tx H H') {a : Addr} {xs : List V} (h : Rd H a (.tup xs)) : Rd H' a (.tup xs) := by
  rcases h with h | ⟨o, h⟩
  · exact .inl ((t a).1 _ h)
  · exact .inr ⟨o, (t a).2.1 _ _ h⟩
theorem Tx.sqt {K : PySem.W.Frag} {H H' : Hp} (t : Tx H H') {a : Addr} {xs : List V} (h : SqT K H a xs) : SqT K H' a xs := by
  rcases h with h | h
  · exact .inl (t.rd h)
  · exact .inr h
theorem Tx.fzl {K : PySem.W.Frag} {H H' : Hp} (t : Tx H H') {a : Addr} {xs : List V} (h : Fzl K H a xs) : Fzl K H' a xs := by
  rcases h with ⟨o, h⟩ | h
  · exact .inl ⟨o, (t a).2.1 _ _ h⟩
  · exact .inr h
theorem Tx.stay {H H' : Hp} (t : Tx H H') {a : Addr} {u : HO} (s : Stay u) (h : H a = some u) : H' a = some u := by
  rcases s with ⟨xs, rfl⟩ | ⟨φ, rfl⟩ | ⟨o, v, rfl⟩
  · exact (t a).1 _ h
  · exact (t a).2.2 _ h
  · exact (t a).2.1 _ _ h
theorem Tx.new {H : Hp} {p : Addr} {o : HO} (h : H p = none) : Tx H (upd H p o) := Tx.same fun b u e => by
  rw [upd_ne (ne_of_none e h)]
  exact e

section
variable {R R' : V → D → Fp → Prop} {F G : Fp} {cs L : List (V × D)} {v w : V} {d e : D} {i : Nat}
theorem Sep.monoF : ∀ {cs : List (V × D)} {F G : Fp}, Sep R cs F → (∀ x, F x → G x) → Sep R cs G
  | [], _, _, _, _ => trivial
  | (_, _) :: _, _, _, ⟨F1, F2, h1, h2, h3, h4, h5⟩, g => ⟨F1, F2, h1, h2, h3, fun x q => g x (h4 x q), fun x q => g x (h5 x q)⟩
theorem Sep.monoR : ∀ {cs : List (V × D)} {F : Fp}, Sep R cs F → (∀ v d F', (v, d) ∈ cs → (∀ x, F' x → F x) → R v d F' → R' v d F') → Sep R' cs F
  | [], _, _, _ => trivial
  | (_, _) :: _, _, ⟨F1, F2, h1, h2, h3, h4, h5⟩, g => ⟨F1, F2, g _ _ _ List.mem_cons_self h4 h1, Sep.monoR h2 fun v d F' m s r => g v d F' (List.mem_cons_of_mem _ m) (fun x q => h5 x (s x q)) r, h3, h4, h5⟩
theorem Sep.cons {F1 F2 : Fp} (h1 : R v d F1) (h2 : Sep R cs F2) (h3 : ∀ x, F1 x → ¬ F2 x) : Sep R ((v, d) :: cs) (fun x => F1 x ∨ F2 x) :=
  ⟨F1, F2, h1, h2, h3, fun _ q => .inl q, fun _ q => .inr q⟩
theorem Sep.swap {c c' : V × D} (h : Sep R (c :: c' :: cs) F) : Sep R (c' :: c :: cs) F := by
  obtain ⟨v, d⟩ := c
  obtain ⟨w, e⟩ := c'
  obtain ⟨F1, F2, h1, ⟨F3, F4, g1, g2, g3, g4, g5⟩, h3, h4, h5⟩ := h
  refine ⟨F3, fun x => F1 x ∨ F4 x, g1, ⟨F1, F4, h1, g2, fun x q z => h3 x q (g5 x z), fun _ q => .inl q, fun _ q => .inr q⟩, fun x q z => ?_, fun x q => h5 x (g4 x q), fun x q => ?_⟩
  · rcases z with z | z
    · exact h3 x z (g4 x q)
    · exact g3 x q z
  · rcases q with q | q
    · exact h4 x q
    · exact h5 x (g5 x q)
theorem Sep.tail {c : V × D} (h : Sep R (c :: cs) F) : Sep R cs F := by
  obtain ⟨v, d⟩ := c
  obtain ⟨F1, F2, _, h2, _, _, h5⟩ := h
  exact h2.monoF h5
theorem Sep.under {c : V × D} {cs' : List (V × D)} (h : Sep R (c :: cs) F) (g : ∀ G, Sep R cs G → Sep R cs' G) : Sep R (c :: cs') F := by
  obtain ⟨v, d⟩ := c
  obtain ⟨F1, F2, h1, h2, h3, h4, h5⟩ := h
  exact ⟨F1, F2, h1, g _ h2, h3, h4, h5⟩
theorem Sep.perm {cs' : List (V × D)} (p : cs.Perm cs') : ∀ {F}, Sep R cs F → Sep R cs' F := by
  induction p with
  | nil => exact fun h => h
  | cons c _ ih => exact fun h => h.under fun G => ih
  | swap a b l => exact fun h => Sep.swap h
  | trans _ _ ih1 ih2 => exact fun h => ih2 (ih1 h)
/-- the top cell takes the place of the i-th -/
theorem Sep.put {c : V × D} : ∀ {L : List (V × D)} {i : Nat} {F : Fp}, Sep R (c :: L) F → Sep R (L.set i c) F
  | [], _, _, _ => trivial
  | _ :: L, 0, _, h => (Sep.swap h).tail
  | b :: L, i + 1, _, h => by
    show Sep R (b :: L.set i c) _
    exact (Sep.swap h).under fun G => Sep.put
/-- the i-th cell is taken out -/
theorem Sep.out (h0 : ∀ v F, R v (.opq v) F) : ∀ {L : List (V × D)} {i : Nat} {F : Fp}, Sep R L F → L[i]? = some (v, d) → Sep R ((v, d) :: L.set i (v, .opq v)) F
  | [], _, _, _, e => by simp at e
  | b :: L, 0, F, h, e => by
    have e' : b = (v, d) := by simpa using e
    subst e'
    obtain ⟨F1, F2, h1, h2, h3, h4, h5⟩ := h
    exact ⟨F1, F2, h1, ⟨fun _ => False, F2, h0 _ _, h2, fun _ q => q.elim, fun _ q => q.elim, fun _ q => q⟩, h3, h4, h5⟩
  | b :: L, i + 1, F, h, e => by
    have e' : L[i]? = some (v, d) := by simpa using e
    show Sep R ((v, d) :: b :: L.set i (v, .opq v)) F
    exact Sep.swap (h.under fun G g => Sep.out h0 g e')
/-- one cell read -/
theorem Sep.get : ∀ {L : List (V × D)} {i : Nat} {F : Fp}, Sep R L F → L[i]? = some (v, d) → ∃ F1, R v d F1 ∧ ∀ x, F1 x → F x
  | [], _, _, _, e => by simp at e
  | b :: L, 0, F, h, e => by
    have e' : b = (v, d) := by simpa using e
    subst e'
    obtain ⟨F1, F2, h1, h2, h3, h4, h5⟩ := h
    exact ⟨F1, h1, h4⟩
  | b :: L, i + 1, F, h, e => by
    have e' : L[i]? = some (v, d) := by simpa using e
    obtain ⟨F1, F2, h1, h2, h3, h4, h5⟩ := h
    obtain ⟨F3, g1, g2⟩ := Sep.get h2 e'
    exact ⟨F3, g1, fun x q => h5 x (g2 x q)⟩
theorem Sep.getm (h : Sep R L F) (m : (v, d) ∈ L) : ∃ F1, R v d F1 ∧ ∀ x, F1 x → F x := by
  obtain ⟨i, e⟩ := List.mem_iff_getElem?.mp m
  exact h.get e
/-- a cell that needs nothing -/
theorem Sep.free (h : Sep R L F) (r : R v d fun _ => False) : Sep R ((v, d) :: L) F :=
  ⟨fun _ => False, F, r, h, fun _ q => q.elim, fun _ q => q.elim, fun _ q => q⟩
theorem Sep.drop {c : V × D} {cs' : List (V × D)} (h : Sep R (cs ++ c :: cs') F) : Sep R (cs ++ cs') F := by
  have p : (cs ++ c :: cs').Perm (c :: (cs ++ cs')) := List.perm_middle
  exact (h.perm p).tail
theorem Sep.append : ∀ {cs L : List (V × D)} {F G : Fp}, Sep R cs F → Sep R L G → (∀ x, F x → ¬ G x) → Sep R (cs ++ L) (fun x => F x ∨ G x)
  | [], L, F, G, _, h, _ => h.monoF fun _ q => .inr q
  | (v, d) :: cs, L, F, G, ⟨F1, F2, h1, h2, h3, h4, h5⟩, h, dj => by
    refine ⟨F1, fun x => F2 x ∨ G x, h1, Sep.append h2 h fun x q => dj x (h5 x q), fun x q z => ?_, fun x q => .inl (h4 x q), fun x q => ?_⟩
    · rcases z with z | z
      · exact h3 x q z
      · exact dj x (h4 x q) z
    · rcases q with q | q
      · exact .inl (h5 x q)
      · exact .inr q
theorem Sep.split : ∀ {cs L : List (V × D)} {F : Fp}, Sep R (cs ++ L) F → ∃ F1 F2 : Fp, Sep R cs F1 ∧ Sep R L F2 ∧ (∀ x, F1 x → ¬ F2 x) ∧ (∀ x, F1 x → F x) ∧ ∀ x, F2 x → F x
  | [], L, F, h => ⟨fun _ => False, F, trivial, h, fun _ q => q.elim, fun _ q => q.elim, fun _ q => q⟩
  | (v, d) :: cs, L, F, ⟨F1, F2, h1, h2, h3, h4, h5⟩ => by
    obtain ⟨G1, G2, g1, g2, g3, g4, g5⟩ := Sep.split h2
    refine ⟨fun x => F1 x ∨ G1 x, G2, Sep.cons h1 g1 (fun x q z => h3 x q (g4 x z)), g2, fun x q z => ?_, fun x q => ?_, fun x q => h5 x (g5 x q)⟩
    · rcases q with q | q
      · exact h3 x q (g5 x z)
      · exact g3 x q z
    · rcases q with q | q
      · exact h4 x q
      · exact h5 x (g4 x q)
theorem Sep.freeAll : ∀ {cs : List (V × D)}, (∀ c ∈ cs, R c.1 c.2 fun _ => False) → Sep R cs (fun _ => False)
  | [], _ => trivial
  | (v, d) :: cs, h => ⟨fun _ => False, fun _ => False, h _ List.mem_cons_self, Sep.freeAll fun c m => h c (List.mem_cons_of_mem _ m), fun _ q => q.elim, fun _ q => q.elim, fun _ q => q⟩
end

section
variable {K : PySem.W.Frag} {H H' : Hp} {n m : Nat} {v : V} {d : D} {F G : Fp} {a : Addr} {vs : List V} {cs : List (V × D)}
theorem Own.monoF : ∀ {n : Nat} {v : V} {d : D} {F G : Fp}, Own K H n v d F → (∀ x, F x → G x) → Own K H n v d G
  | 0, _, _, _, _, h, _ => h
  | n + 1, v, d, F, G, h, g => by
    rcases h with h | ⟨e, h1, h2⟩ | ⟨a, vs, h1, h2, h3, F', h4, h5, h6⟩
    · exact .inl h
    · exact .inr (.inl ⟨e, h1, Own.monoF h2 g⟩)
    · exact .inr (.inr ⟨a, vs, h1, h2, h3, F', h4, fun x q => g x (h5 x q), fun q => ⟨g a (h6 q).1, (h6 q).2⟩⟩)
theorem Own.succ : ∀ {n : Nat} {v : V} {d : D} {F : Fp}, Own K H n v d F → Own K H (n + 1) v d F
  | 0, _, _, _, h => .inl h
  | n + 1, v, d, F, h => by
    rcases h with h | ⟨e, h1, h2⟩ | ⟨a, vs, h1, h2, h3, F', h4, h5, h6⟩
    · exact .inl h
    · exact .inr (.inl ⟨e, h1, Own.succ h2⟩)
    · exact .inr (.inr ⟨a, vs, h1, h2, h3, F', h4.monoR fun _ _ _ _ _ r => Own.succ r, h5, h6⟩)
theorem Own.le (h : Own K H n v d F) (l : n ≤ m) : Own K H m v d F := by
  induction l with
  | refl => exact h
  | step _ ih => exact ih.succ
theorem Sep.bound : ∀ {cs : List (V × D)} {F : Fp}, Sep (OwnE K H) cs F → ∃ n, Sep (Own K H n) cs F
  | [], _, _ => ⟨0, trivial⟩
  | (v, d) :: cs, F, ⟨F1, F2, ⟨n, h1⟩, h2, h3, h4, h5⟩ => by
    obtain ⟨m, g⟩ := Sep.bound h2
    exact ⟨max n m, F1, F2, h1.le (Nat.le_max_left _ _), g.monoR fun _ _ _ _ _ r => r.le (Nat.le_max_right _ _), h3, h4, h5⟩
theorem Node.frame (h : Node K H d a vs) (t : Tx H H') (e : isMut d = true → H' a = H a) : Node K H' d a vs := by
  cases d with
  | tup _ => exact t.sqt h
  | tk _ => exact (t a).1 _ h
  | fz _ => exact t.fzl h
  | lst _ => exact (e rfl).trans h
  | dK _ => exact (e rfl).trans h
  | dT _ => exact (e rfl).trans h
  | lkK _ =>
    obtain ⟨o, h⟩ := h
    exact ⟨o, (e rfl).trans h⟩
  | lkT _ _ _ => exact ⟨(e rfl).trans h.1, h.2⟩
  | obj _ _ =>
    obtain ⟨o, h⟩ := h
    exact ⟨o, (e rfl).trans h⟩
  | fn _ =>
    obtain ⟨L, q, h⟩ := h
    exact ⟨L, q, fun p m => ⟨(h p m).1, t.stay (h p m).1 (h p m).2⟩⟩
  | _ => exact h.elim
theorem Own.frame (t : Tx H H') : ∀ {n : Nat} {v : V} {d : D} {F : Fp}, Own K H n v d F → (∀ x, F x → H' x = H x) → Own K H' n v d F
  | 0, _, _, _, h, _ => h
  | n + 1, v, d, F, h, g => by
    rcases h with h | ⟨e, h1, h2⟩ | ⟨a, vs, h1, h2, h3, F', h4, h5, h6⟩
    · exact .inl h
    · exact .inr (.inl ⟨e, h1, Own.frame t h2 g⟩)
    · exact .inr (.inr ⟨a, vs, h1, h2.frame t fun q => g a (h6 q).1, h3, F', h4.monoR fun _ _ _ _ s r => Own.frame t r fun x q => g x (h5 x (s x q)), h5, h6⟩)
theorem OwnE.monoF (h : OwnE K H v d F) (g : ∀ x, F x → G x) : OwnE K H v d G := h.elim fun n h => ⟨n, h.monoF g⟩
theorem OwnE.frame (h : OwnE K H v d F) (t : Tx H H') (g : ∀ x, F x → H' x = H x) : OwnE K H' v d F := h.elim fun n h => ⟨n, h.frame t g⟩
theorem OwnE.opq (v : V) (F : Fp) : OwnE K H v (.opq v) F := ⟨0, rfl⟩
theorem OwnE.leaf (h : leaf d = some v) : OwnE K H v d F := ⟨0, h⟩
theorem OwnE.non : OwnE K H .non .non F := ⟨0, rfl⟩
theorem OwnE.int {i : Int} : OwnE K H (.int i) (.int i) F := ⟨0, rfl⟩
theorem OwnE.bl {i : Bool} : OwnE K H (.bl i) (.bl i) F := ⟨0, rfl⟩
theorem OwnE.str {i : Str} : OwnE K H (.str i) (.str i) F := ⟨0, rfl⟩
theorem OwnE.node {F' : Fp} (h2 : Node K H d a vs) (h3 : vs.length = (kids d).length) (h4 : Sep (OwnE K H) (vs.zip (kids d)) F') (h5 : ∀ x, F' x → F x) (h6 : isMut d = true → F a ∧ ¬ F' a) : OwnE K H (.ref a) d F := by
  obtain ⟨n, h⟩ := h4.bound
  exact ⟨n + 1, .inr (.inr ⟨a, vs, rfl, h2, h3, F', h, h5, h6⟩)⟩
theorem OwnE.tg (h : OwnE K H v d F) : OwnE K H v (.tg v d) F := h.elim fun n h => ⟨n + 1, .inr (.inl ⟨d, rfl, h⟩)⟩
theorem OwnE.inv (h : OwnE K H v d F) : Dl.leaf d = some v ∨ (∃ e, d = .tg v e ∧ OwnE K H v e F) ∨
    ∃ a vs, v = .ref a ∧ Node K H d a vs ∧ vs.length = (kids d).length ∧ ∃ F' : Fp, Sep (OwnE K H) (vs.zip (kids d)) F' ∧ (∀ x, F' x → F x) ∧ (isMut d = true → F a ∧ ¬ F' a) := by
  obtain ⟨n, h⟩ := h
  cases n with
  | zero => exact .inl h
  | succ n =>
    rcases h with h | ⟨e, h1, h2⟩ | ⟨a, vs, h1, h2, h3, F', h4, h5, h6⟩
    · exact .inl h
    · exact .inr (.inl ⟨e, h1, n, h2⟩)
    · exact .inr (.inr ⟨a, vs, h1, h2, h3, F', h4.monoR fun _ _ _ _ _ r => ⟨n, r⟩, h5, h6⟩)
theorem OwnE.of_int {i : Int} (h : OwnE K H v (.int i) F) : v = .int i := by
  rcases h.inv with h | ⟨e, h1, h2⟩ | ⟨a, vs, h1, h2, _⟩
  · exact (Option.some.inj h).symm
  · cases h1
  · exact h2.elim
theorem OwnE.of_bl {i : Bool} (h : OwnE K H v (.bl i) F) : v = .bl i := by
  rcases h.inv with h | ⟨e, h1, h2⟩ | ⟨a, vs, h1, h2, _⟩
  · exact (Option.some.inj h).symm
  · cases h1
  · exact h2.elim
theorem OwnE.of_str {i : Str} (h : OwnE K H v (.str i) F) : v = .str i := by
  rcases h.inv with h | ⟨e, h1, h2⟩ | ⟨a, vs, h1, h2, _⟩
  · exact (Option.some.inj h).symm
  · cases h1
  · exact h2.elim
theorem OwnE.of_non (h : OwnE K H v .non F) : v = .non := by
  rcases h.inv with h | ⟨e, h1, h2⟩ | ⟨a, vs, h1, h2, _⟩
  · exact (Option.some.inj h).symm
  · cases h1
  · exact h2.elim
theorem OwnE.of_opq {w : V} (h : OwnE K H v (.opq w) F) : v = w := by
  rcases h.inv with h | ⟨e, h1, h2⟩ | ⟨a, vs, h1, h2, _⟩
  · exact (Option.some.inj h).symm
  · cases h1
  · exact h2.elim
theorem OwnE.of_leaf {w : V} (hl : Dl.leaf d = some w) (h : OwnE K H v d F) : v = w := by
  cases d with
  | non => rw [h.of_non]; exact Option.some.inj hl
  | bl b => rw [h.of_bl]; exact Option.some.inj hl
  | int b => rw [h.of_int]; exact Option.some.inj hl
  | str b => rw [h.of_str]; exact Option.some.inj hl
  | opq b => rw [h.of_opq]; exact Option.some.inj hl
  | _ => cases hl
/-- what is neither a leaf nor tagged -/
theorem OwnE.of_node (h : OwnE K H v d F) (hl : Dl.leaf d = none) (ht : ∀ w e, d ≠ .tg w e) :
    ∃ a vs, v = .ref a ∧ Node K H d a vs ∧ vs.length = (kids d).length ∧ ∃ F' : Fp, Sep (OwnE K H) (vs.zip (kids d)) F' ∧ (∀ x, F' x → F x) ∧ (isMut d = true → F a ∧ ¬ F' a) := by
  rcases h.inv with h | ⟨e, h1, h2⟩ | h
  · rw [hl] at h; cases h
  · exact (ht _ _ h1).elim
  · exact h
theorem OwnE.of_tg {w : V} (h : OwnE K H v (.tg w d) F) : v = w ∧ OwnE K H v d F := by
  rcases h.inv with h | ⟨e, h1, h2⟩ | ⟨a, vs, h1, h2, _⟩
  · cases h
  · cases h1; exact ⟨rfl, h2⟩
  · exact h2.elim
end

/-- data that no change of what is owned touches -/
def Imm (d : D) : Prop := ∀ (K : PySem.W.Frag) (H : Hp) (v : V) (F : Fp), OwnE K H v d F → OwnE K H v d fun _ => False
theorem imm_leaf {d : D} {v : V} (h : leaf d = some v) : Imm d := fun K H w F o => by
  rw [o.of_leaf h]
  exact .leaf h
theorem imm_int {i : Int} : Imm (.int i) := imm_leaf rfl
theorem imm_bl {i : Bool} : Imm (.bl i) := imm_leaf rfl
theorem imm_str {i : Str} : Imm (.str i) := imm_leaf rfl
theorem imm_non : Imm .non := imm_leaf rfl
theorem Sep.imm {K : PySem.W.Frag} {H : Hp} {F : Fp} : ∀ {cs : List (V × D)}, Sep (OwnE K H) cs F → (∀ c ∈ cs, Imm c.2) → Sep (OwnE K H) cs fun _ => False := fun h i =>
  Sep.freeAll fun c m => by
    obtain ⟨F1, r, _⟩ := h.getm (v := c.1) (d := c.2) m
    exact i c m K H _ _ r
theorem zip_snd {vs : List V} {ds : List D} {c : V × D} (h : c ∈ vs.zip ds) : c.2 ∈ ds := (List.of_mem_zip h).2
theorem imm_tup {xs : List D} (h : ∀ x ∈ xs, Imm x) : Imm (.tup xs) := fun K H v F o => by
  obtain ⟨a, vs, rfl, h2, h3, F', h4, h5, h6⟩ := o.of_node rfl (fun _ _ q => nomatch q)
  exact OwnE.node h2 h3 (h4.imm fun c m => h _ (zip_snd m)) (fun _ q => q) (fun q => nomatch q)
theorem imm_tk {xs : List D} (h : ∀ x ∈ xs, Imm x) : Imm (.tk xs) := fun K H v F o => by
  obtain ⟨a, vs, rfl, h2, h3, F', h4, h5, h6⟩ := o.of_node rfl (fun _ _ q => nomatch q)
  exact OwnE.node h2 h3 (h4.imm fun c m => h _ (zip_snd m)) (fun _ q => q) (fun q => nomatch q)
theorem OwnE.tkt {K : PySem.W.Frag} {H : Hp} {v : V} {xs : List D} {F : Fp} (o : OwnE K H v (.tk xs) F) : OwnE K H v (.tup xs) F := by
  obtain ⟨a, vs, rfl, h2, h3, F', h4, h5, h6⟩ := o.of_node rfl (fun _ _ q => nomatch q)
  exact OwnE.node (show SqT K H a vs from .inl (.inl h2)) h3 h4 h5 (fun q => nomatch q)
theorem imm_fz {xs : List D} (h : ∀ x ∈ xs, Imm x) : Imm (.fz xs) := fun K H v F o => by
  obtain ⟨a, vs, rfl, h2, h3, F', h4, h5, h6⟩ := o.of_node rfl (fun _ _ q => nomatch q)
  exact OwnE.node h2 h3 (h4.imm fun c m => h _ (zip_snd m)) (fun _ q => q) (fun q => nomatch q)
end Dl

namespace Dl
open PySem L2

/-! ### paths -/
def unT : D → D
  | .tg _ d => d
  | d => d
def setV {α : Type} : List (α × D) → Nat → D → List (α × D)
  | [], _, _ => []
  | (k, _) :: r, 0, e => (k, e) :: r
  | c :: r, n + 1, e => c :: setV r n e
def setK0 : D → Nat → D → D
  | .tup xs, k, e => .tup (xs.set k e)
  | .tk xs, k, e => .tk (xs.set k e)
  | .lst xs, k, e => .lst (xs.set k e)
  | .fz xs, k, e => .fz (xs.set k e)
  | .dK kvs, k, e => .dK (setV kvs k e)
  | .dT kvs, k, e => .dT (setV kvs k e)
  | .lkK kvs, k, e => .lkK (setV kvs k e)
  | .lkT o ws kvs, k, e => .lkT o ws (setV kvs k e)
  | .obj C fs, k, e => .obj C (setV fs k e)
  | d, _, _ => d
def setK : D → Nat → D → D
  | .tg v d, k, e => .tg v (setK0 d k e)
  | d, k, e => setK0 d k e
def dAt : D → List Nat → Option D
  | d, [] => some d
  | d, k :: π => match (kids (unT d))[k]? with
    | some c => dAt c π
    | none => none
def dSet : D → List Nat → D → D
  | _, [], e => e
  | d, k :: π, e => match (kids (unT d))[k]? with
    | some c => setK d k (dSet c π e)
    | none => d
theorem dSet_some {d c e : D} {k : Nat} {π : List Nat} (h : (kids (unT d))[k]? = some c) : dSet d (k :: π) e = setK d k (dSet c π e) := by
  show (match (kids (unT d))[k]? with
    | some c => setK d k (dSet c π e)
    | none => d) = _
  rw [h]
theorem dSet_none {d e : D} {k : Nat} {π : List Nat} (h : (kids (unT d))[k]? = none) : dSet d (k :: π) e = d := by
  show (match (kids (unT d))[k]? with
    | some c => setK d k (dSet c π e)
    | none => d) = _
  rw [h]
theorem dAt_some {d c : D} {k : Nat} {π : List Nat} (h : (kids (unT d))[k]? = some c) : dAt d (k :: π) = dAt c π := by
  show (match (kids (unT d))[k]? with
    | some c => dAt c π
    | none => none) = _
  rw [h]
theorem setV_fst {α : Type} : ∀ (l : List (α × D)) (k : Nat) (e : D), (setV l k e).map (·.1) = l.map (·.1)
  | [], _, _ => rfl
  | (_, _) :: _, 0, _ => rfl
  | c :: r, k + 1, e => congrArg (c.1 :: ·) (setV_fst r k e)
theorem setV_snd {α : Type} : ∀ (l : List (α × D)) (k : Nat) (e : D), (setV l k e).map (·.2) = (l.map (·.2)).set k e
  | [], _, _ => rfl
  | (_, _) :: _, 0, _ => rfl
  | c :: r, k + 1, e => congrArg (c.2 :: ·) (setV_snd r k e)
theorem setV_setV {α : Type} : ∀ (l : List (α × D)) (k : Nat) (x y : D), setV (setV l k x) k y = setV l k y
  | [], _, _, _ => rfl
  | (_, _) :: _, 0, _, _ => rfl
  | c :: r, k + 1, x, y => congrArg (c :: ·) (setV_setV r k x y)
theorem kids_setK0 {d e : D} {k : Nat} : kids (setK0 d k e) = (kids d).set k e := by
  cases d <;> first | rfl | exact setV_snd _ _ _
theorem node_setK0 {K : PySem.W.Frag} {H : Hp} {d e : D} {k : Nat} {a : Addr} {vs : List V} (h : Node K H d a vs) : Node K H (setK0 d k e) a vs := by
  cases d with
  | dK kvs => show H a = some (.dK (((setV kvs k e).map (·.1)).zip vs)); rw [setV_fst]; exact h
  | dT kvs => show H a = some (.dT (((setV kvs k e).map (·.1)).zip vs)); rw [setV_fst]; exact h
  | lkK kvs => show ∃ o, H a = some (.frz o (.dK (((setV kvs k e).map (·.1)).zip vs))); rw [setV_fst]; exact h
  | lkT o ws kvs => show H a = some (.frz o (.dT ws)) ∧ ws = ((setV kvs k e).map (·.1)).zip vs; rw [setV_fst]; exact h
  | obj C fs => show ∃ dx, H a = some (.ins C dx (((setV fs k e).map (·.1)).zip vs)); rw [setV_fst]; exact h
  | tup _ => exact h
  | tk _ => exact h
  | lst _ => exact h
  | fz _ => exact h
  | fn _ => exact h
  | _ => exact h.elim
theorem mut_setK0 {d e : D} {k : Nat} : isMut (setK0 d k e) = isMut d := by cases d <;> rfl
theorem setK0_setK0 {d x y : D} {k : Nat} : setK0 (setK0 d k x) k y = setK0 d k y := by
  cases d with
  | tup xs => show D.tup ((xs.set k x).set k y) = .tup (xs.set k y); rw [List.set_set]
  | tk xs => show D.tk ((xs.set k x).set k y) = .tk (xs.set k y); rw [List.set_set]
  | lst xs => show D.lst ((xs.set k x).set k y) = .lst (xs.set k y); rw [List.set_set]
  | fz xs => show D.fz ((xs.set k x).set k y) = .fz (xs.set k y); rw [List.set_set]
  | dK kvs => show D.dK (setV (setV kvs k x) k y) = .dK (setV kvs k y); rw [setV_setV]
  | dT kvs => show D.dT (setV (setV kvs k x) k y) = .dT (setV kvs k y); rw [setV_setV]
  | lkK kvs => show D.lkK (setV (setV kvs k x) k y) = .lkK (setV kvs k y); rw [setV_setV]
  | lkT o ws kvs => show D.lkT o ws (setV (setV kvs k x) k y) = .lkT o ws (setV kvs k y); rw [setV_setV]
  | obj C fs => show D.obj C (setV (setV fs k x) k y) = .obj C (setV fs k y); rw [setV_setV]
  | _ => rfl
theorem setK_nt {d e : D} {k : Nat} (h : ∀ v c, d ≠ .tg v c) : setK d k e = setK0 d k e := by
  cases d with
  | tg v c => exact absurd rfl (h v c)
  | _ => rfl
theorem setK0_nt {d e : D} {k : Nat} (h : ∀ v c, d ≠ .tg v c) : ∀ v c, setK0 d k e ≠ .tg v c := by
  intro v c
  cases d with
  | tg v c => exact absurd rfl (h v c)
  | _ => exact fun q => nomatch q
theorem tg_or (d : D) : (∃ v c, d = .tg v c) ∨ ∀ v c, d ≠ .tg v c := by
  cases d with
  | tg v c => exact .inl ⟨v, c, rfl⟩
  | _ => exact .inr fun _ _ q => nomatch q
theorem unT_nt {d : D} (h : ∀ v c, d ≠ .tg v c) : unT d = d := by
  cases d with
  | tg v c => exact absurd rfl (h v c)
  | _ => rfl
theorem unT_setK {d e : D} {k : Nat} : unT (setK d k e) = setK0 (unT d) k e := by
  rcases tg_or d with ⟨v, c, rfl⟩ | h
  · rfl
  · rw [setK_nt h, unT_nt h, unT_nt (setK0_nt h)]
theorem kids_setK {d e : D} {k : Nat} : kids (unT (setK d k e)) = (kids (unT d)).set k e := by
  rw [unT_setK, kids_setK0]
theorem setK_setK {d x y : D} {k : Nat} : setK (setK d k x) k y = setK d k y := by
  rcases tg_or d with ⟨v, c, rfl⟩ | h
  · show D.tg v (setK0 (setK0 c k x) k y) = .tg v (setK0 c k y); rw [setK0_setK0]
  · rw [setK_nt h, setK_nt (setK0_nt h), setK_nt h, setK0_setK0]
theorem kid_leaf {d c : D} {k : Nat} (h : (kids d)[k]? = some c) : (∀ u, leaf d ≠ some u) ∧ ∀ u e, d ≠ .tg u e := by
  constructor
  · intro u q
    cases d <;> first | (cases h; done) | cases q
  · intro u e q; subst q; cases h
theorem zip_setk {vs : List V} {ds : List D} {k : Nat} {e : D} (hl : vs.length = ds.length) (hk : k < vs.length) : vs.zip (ds.set k e) = (vs.zip ds).set k (vs[k], e) := by
  induction vs generalizing ds k with
  | nil => cases hk
  | cons v vs ih =>
    cases ds with
    | nil => cases hl
    | cons d ds =>
      cases k with
      | zero => rfl
      | succ k =>
        show (v, d) :: vs.zip (ds.set k e) = (v, d) :: (vs.zip ds).set k (vs[k]'(by simpa using hk), e)
        rw [ih (by simpa using hl) (by simpa using hk)]
section
variable {K : PySem.W.Frag} {H : Hp} {v w : V} {d c e : D} {F F1 F2 : Fp} {k : Nat}
theorem own_take0 (o : OwnE K H v d F) (h : (kids d)[k]? = some c) : ∃ w F1 F2, OwnE K H w c F1 ∧ OwnE K H v (setK0 d k (.opq w)) F2 ∧ (∀ x, F1 x → ¬ F2 x) ∧ (∀ x, F1 x → F x) ∧ ∀ x, F2 x → F x := by
  obtain ⟨nl, nt⟩ := kid_leaf h
  rcases o.inv with h1 | ⟨e, h1, _⟩ | ⟨a, vs, rfl, h2, h3, F', h4, h5, h6⟩
  · exact absurd h1 (nl _)
  · exact absurd h1 (nt _ _)
  · have hk := (List.getElem?_eq_some_iff.mp h).1
    have hz : (vs.zip (kids d))[k]? = some (vs[k]'(by omega), c) := by
      rw [List.getElem?_zip_eq_some]
      exact ⟨List.getElem?_eq_getElem (by omega), h⟩
    have s := h4.out (fun v F => OwnE.opq v F) hz
    obtain ⟨G1, G2, g1, g2, g3, g4, g5⟩ := s
    have hs : vs.zip (kids (setK0 d k (.opq vs[k]))) = (vs.zip (kids d)).set k (vs[k], .opq vs[k]) := by
      rw [kids_setK0]
      exact zip_setk h3 (by omega)
    refine ⟨vs[k], G1, fun x => G2 x ∨ (isMut d = true ∧ x = a), g1, ?_, fun x q z => ?_, fun x q => h5 x (g4 x q), fun x q => ?_⟩
    · refine OwnE.node (F' := G2) (node_setK0 h2) (by rw [kids_setK0]; simp [h3]) (by rw [hs]; exact g2) (fun x q => .inl q) (fun m => ?_)
      rw [mut_setK0] at m
      exact ⟨.inr ⟨m, rfl⟩, fun q => (h6 m).2 (g5 a q)⟩
    · rcases z with z | ⟨m, z⟩
      · exact g3 x q z
      · exact (h6 m).2 (z ▸ g4 x q)
    · rcases q with q | ⟨m, q⟩
      · exact h5 x (g5 x q)
      · rw [q]; exact (h6 m).1
theorem own_give0 (o : OwnE K H v d F2) (h : (kids d)[k]? = some (.opq w)) (p : OwnE K H w e F1) (dj : ∀ x, F1 x → ¬ F2 x) : OwnE K H v (setK0 d k e) fun x => F1 x ∨ F2 x := by
  obtain ⟨nl, nt⟩ := kid_leaf h
  rcases o.inv with h1 | ⟨e, h1, _⟩ | ⟨a, vs, rfl, h2, h3, F', h4, h5, h6⟩
  · exact absurd h1 (nl _)
  · exact absurd h1 (nt _ _)
  · have hk := (List.getElem?_eq_some_iff.mp h).1
    have hz : (vs.zip (kids d))[k]? = some (vs[k]'(by omega), .opq w) := by
      rw [List.getElem?_zip_eq_some]
      exact ⟨List.getElem?_eq_getElem (by omega), h⟩
    obtain ⟨G, g, _⟩ := h4.get hz
    have ew := g.of_opq
    subst ew
    have s : Sep (OwnE K H) ((vs[k], e) :: vs.zip (kids d)) (fun x => F1 x ∨ F' x) := Sep.cons p h4 fun x q z => dj x q (h5 x z)
    have s2 := s.put (i := k)
    have hs : vs.zip (kids (setK0 d k e)) = (vs.zip (kids d)).set k (vs[k]'(by omega), e) := by
      rw [kids_setK0]
      exact zip_setk h3 (by omega)
    refine OwnE.node (F' := fun x => F1 x ∨ F' x) (node_setK0 h2) (by rw [kids_setK0]; simp [h3]) (by rw [hs]; exact s2) (fun x q => q.elim .inl fun q => .inr (h5 x q)) (fun m => ?_)
    rw [mut_setK0] at m
    exact ⟨.inr (h6 m).1, fun q => q.elim (fun q => dj a q (h6 m).1) (h6 m).2⟩
theorem own_take1 (o : OwnE K H v d F) (h : (kids (unT d))[k]? = some c) : ∃ w F1 F2, OwnE K H w c F1 ∧ OwnE K H v (setK d k (.opq w)) F2 ∧ (∀ x, F1 x → ¬ F2 x) ∧ (∀ x, F1 x → F x) ∧ ∀ x, F2 x → F x := by
  rcases tg_or d with ⟨u, e, rfl⟩ | q
  · obtain ⟨rfl, o2⟩ := o.of_tg
    obtain ⟨w, F1, F2, h1, h2, r⟩ := own_take0 (d := e) o2 h
    exact ⟨w, F1, F2, h1, h2.tg, r⟩
  · rw [unT_nt q] at h
    simp only [setK_nt q]
    exact own_take0 o h
theorem own_give1 (o : OwnE K H v d F2) (h : (kids (unT d))[k]? = some (.opq w)) (p : OwnE K H w e F1) (dj : ∀ x, F1 x → ¬ F2 x) : OwnE K H v (setK d k e) fun x => F1 x ∨ F2 x := by
  rcases tg_or d with ⟨u, e', rfl⟩ | q
  · obtain ⟨rfl, o2⟩ := o.of_tg
    exact (own_give0 (d := e') o2 h p dj).tg
  · rw [unT_nt q] at h
    rw [setK_nt q]
    exact own_give0 o h p dj
theorem own_takeP : ∀ {π : List Nat} {v : V} {d : D} {F : Fp}, OwnE K H v d F → dAt d π = some c → ∃ w F1 F2, OwnE K H w c F1 ∧ OwnE K H v (dSet d π (.opq w)) F2 ∧ (∀ x, F1 x → ¬ F2 x) ∧ (∀ x, F1 x → F x) ∧ ∀ x, F2 x → F x
  | [], v, d, F, o, h => by
    cases h
    exact ⟨v, F, fun _ => False, o, .opq v _, fun _ _ q => q, fun _ q => q, fun _ q => q.elim⟩
  | k :: π, v, d, F, o, h => by
    unfold dAt at h
    cases q : (kids (unT d))[k]? with
    | none => rw [q] at h; cases h
    | some c1 =>
      rw [q] at h
      obtain ⟨w1, G1, G2, g1, g2, g3, g4, g5⟩ := own_take1 o q
      obtain ⟨w, F1, F2, h1, h2, h3, h4, h5⟩ := own_takeP g1 h
      have hk : (kids (unT (setK d k (.opq w1))))[k]? = some (.opq w1) := by
        rw [kids_setK, List.getElem?_set_self (List.getElem?_eq_some_iff.mp q).1]
      have h6 := own_give1 g2 hk h2 fun x z y => g3 x (h5 x z) y
      rw [setK_setK] at h6
      refine ⟨w, F1, fun x => F2 x ∨ G2 x, h1, ?_, fun x z y => ?_, fun x z => g4 x (h4 x z), fun x z => ?_⟩
      · unfold dSet; rw [q]; exact h6
      · rcases y with y | y
        · exact h3 x z y
        · exact g3 x (h4 x z) y
      · rcases z with z | z
        · exact g4 x (h5 x z)
        · exact g5 x z
theorem own_giveP : ∀ {π : List Nat} {v : V} {d : D} {F2 : Fp}, OwnE K H v (dSet d π (.opq w)) F2 → dAt d π = some c → OwnE K H w e F1 → (∀ x, F1 x → ¬ F2 x) → OwnE K H v (dSet d π e) fun x => F1 x ∨ F2 x
  | [], v, d, F2, o, _, p, _ => by
    have ev : v = w := o.of_opq
    subst ev
    exact p.monoF fun _ q => .inl q
  | k :: π, v, d, F2, o, h, p, dj => by
    unfold dAt at h
    unfold dSet at o ⊢
    cases q : (kids (unT d))[k]? with
    | none => rw [q] at h; cases h
    | some c1 =>
      rw [q] at h o
      have hk : (kids (unT (setK d k (dSet c1 π (.opq w)))))[k]? = some (dSet c1 π (.opq w)) := by
        rw [kids_setK, List.getElem?_set_self (List.getElem?_eq_some_iff.mp q).1]
      obtain ⟨w1, G1, G2, g1, g2, g3, g4, g5⟩ := own_take1 o hk
      rw [setK_setK] at g2
      have h1 := own_giveP g1 h p fun x z y => dj x z (g4 x y)
      have hk2 : (kids (unT (setK d k (.opq w1))))[k]? = some (.opq w1) := by
        rw [kids_setK, List.getElem?_set_self (List.getElem?_eq_some_iff.mp q).1]
      have h2 := own_give1 g2 hk2 h1 fun x z y => by
        rcases z with z | z
        · exact dj x z (g5 x y)
        · exact g3 x z y
      rw [setK_setK] at h2
      refine h2.monoF fun x z => ?_
      rcases z with (z | z) | z
      · exact .inl z
      · exact .inr (g4 x z)
      · exact .inr (g5 x z)
end

/-! ### the state -/
abbrev Env := List (Option D)
/-- a result: data of its own, or what stands in a slot -/
inductive Rs where
  | v (d : D) | s (i : Nat) | p (w : V) (i : Nat) (π : List Nat)
def getP (δ : Env) (i : Nat) (π : List Nat) : Option D := match δ[i]?.join with
  | some d => dAt d π
  | none => none
def setP (δ : Env) (i : Nat) (π : List Nat) (e : D) : Env := match δ[i]?.join with
  | some d => δ.set i (some (dSet d π e))
  | none => δ
structure Fm where
  H0 : Hp
  F0 : Fp
  pn : List Nat
  pv : Nat → V
  tb : List (Addr × Str)
/-- what a def keeps of the heap that it was called with; the tables of its code objects -/
structure Frm (f : Fm) (H : Hp) : Prop where
  k : ∀ a u, f.H0 a = some u → ¬ f.F0 a → (∀ p ∈ f.tb, p.1 ≠ a) → H a = some u
  t : LamX.Tabs f.tb H
  o : ∀ p ∈ f.tb, ¬ f.F0 p.1 ∧ f.H0 p.1 ≠ none
theorem tabs_step {tb : List (Addr × Str)} {H H' : Hp} (t : LamX.Tabs tb H) (e1 : ∀ p ∈ tb, ∀ u, H p.1 = some u → H' p.1 = some u) (e2 : ∀ a φ, H a = some (.ext φ) → H' a = some (.ext φ)) : LamX.Tabs tb H' := fun p m => by
  obtain ⟨ps, h1, h2, h3⟩ := t p m
  refine ⟨ps, e1 p m _ h1, h2, fun pos cv hc => ?_⟩
  obtain ⟨c, ec, hcc⟩ := h3 pos cv hc
  exact ⟨c, ec, e2 _ _ hcc⟩
theorem Frm.step {f : Fm} {H H' : Hp} (h : Frm f H) (e : ∀ a u, H a = some u → ((¬ f.F0 a ∧ f.H0 a ≠ none) ∨ ∃ φ, u = .ext φ) → H' a = some u) : Frm f H' :=
  ⟨fun a u h1 h2 h3 => e a u (h.k a u h1 h2 h3) (.inl ⟨h2, by rw [h1]; exact fun z => nomatch z⟩), tabs_step h.t (fun p m u q => e _ _ q (.inl (h.o p m))) fun a φ q => e _ _ q (.inr ⟨φ, rfl⟩), h.o⟩
theorem Frm.none0 {f : Fm} {H : Hp} (h : Frm f H) {x : Addr} (hx : H x = none) : f.F0 x ∨ f.H0 x = none := by
  by_cases q : f.F0 x
  · exact .inl q
  · refine .inr ?_
    cases z : f.H0 x with
    | none => rfl
    | some u =>
      by_cases m : ∃ p ∈ f.tb, p.1 = x
      · obtain ⟨p, m, e⟩ := m
        obtain ⟨ps, h1, _⟩ := h.t p m
        rw [e, hx] at h1
        cases h1
      · have := h.k x u z q fun p hp e => m ⟨p, hp, e⟩
        rw [hx] at this
        cases this
def cl : Option V → Option D → V × D
  | some v, some d => (v, d)
  | _, _ => (.non, .non)
def cells (σ : St) (δ : Env) : List (V × D) := List.zipWith cl σ δ
def tc : V × Rs → V × D
  | (v, .v d) => (v, d)
  | (v, .s _) => (v, .opq v)
  | (v, .p w _ _) => (v, .opq w)
structure Rp (K : PySem.W.Frag) (f : Fm) (H : Hp) (σ : St) (δ : Env) (T : List (V × Rs)) : Prop where
  len : σ.length = δ.length
  has : ∀ (i : Nat) (d : D), δ[i]? = some (some d) → ∃ v : V, σ[i]? = some (some v)
  own : ∃ F, Sep (OwnE K H) (T.map tc ++ cells σ δ) F ∧ ∀ x, F x → f.F0 x ∨ f.H0 x = none
  tmp : ∀ c ∈ T, ∀ j, c.2 = .s j → σ[j]? = some (some c.1)
  fr : Frm f H
  tx : Tx f.H0 H
  pin : ∀ i ∈ f.pn, σ[i]? = some (some (f.pv i))
def tagged (w : V) : Option D → Option D
  | some (.tg u d) => if u = w then some d else none
  | _ => none
theorem tagged_of {w : V} {x : Option D} {d : D} (h : tagged w x = some d) : x = some (.tg w d) := by
  unfold tagged at h
  split at h
  · split at h
    · next u e z => cases h; rw [z]
    · cases h
  · cases h
def rsv (δ : Env) : Rs → Option D
  | .v d => some d
  | .s i => δ[i]?.join
  | .p w i π => tagged w (getP δ i π)
theorem rsv_p {δ : Env} {w : V} {i : Nat} {π : List Nat} {d : D} (h : getP δ i π = some (.tg w d)) : rsv δ (.p w i π) = some d := by
  show tagged w (getP δ i π) = some d
  rw [h]
  exact if_pos rfl
theorem rsv_of {δ : Env} {w : V} {i : Nat} {π : List Nat} {d : D} (h : rsv δ (.p w i π) = some d) : getP δ i π = some (.tg w d) := tagged_of h

section
variable {K : PySem.W.Frag} {f : Fm} {H H' : Hp} {σ : St} {δ : Env} {T T' : List (V × Rs)} {v w : V} {d e : D} {i j : Nat} {r : Rs} {p a : Addr} {o : HO} {F : Fp}
theorem cells_get (l : σ.length = δ.length) (h1 : σ[i]? = some (some v)) (h2 : δ[i]? = some (some d)) : (cells σ δ)[i]? = some (v, d) := by
  unfold cells
  rw [List.getElem?_zipWith, h1, h2]
  rfl
theorem cells_set {x : Option V} {y : Option D} : cells (σ.set i x) (δ.set i y) = (cells σ δ).set i (cl x y) := by
  unfold cells
  induction σ generalizing δ i with
  | nil => simp
  | cons s σ ih =>
    cases δ with
    | nil => simp
    | cons t δ =>
      cases i with
      | zero => rfl
      | succ i =>
        simp only [List.set_cons_succ, List.zipWith_cons_cons]
        rw [ih]
theorem set_same {α : Type} {l : List α} {x : α} (h : l[i]? = some x) : l.set i x = l := by
  obtain ⟨h1, rfl⟩ := List.getElem?_eq_some_iff.mp h
  exact List.set_getElem_self h1
theorem cells_setd (h1 : σ[i]? = some (some v)) : cells σ (δ.set i (some d)) = (cells σ δ).set i (v, d) := by
  have e := cells_set (σ := σ) (δ := δ) (i := i) (x := some v) (y := some d)
  rw [set_same h1] at e
  exact e
theorem get_join {i : Nat} {d : D} (h : δ[i]?.join = some d) : δ[i]? = some (some d) := by
  cases q : δ[i]? with
  | none => rw [q] at h; cases h
  | some x =>
    rw [q] at h
    cases x with
    | none => cases h
    | some y => cases h; rfl
/-- what a slot's data says -/
theorem Rp.slot (R : Rp K f H σ δ T) (h : δ[i]? = some (some d)) : ∃ v, σ[i]? = some (some v) ∧ ∃ F, OwnE K H v d F := by
  obtain ⟨v, e⟩ := R.has i d h
  obtain ⟨F, s, _⟩ := R.own
  obtain ⟨F1, F2, s1, s2, _⟩ := s.split
  obtain ⟨F3, q, _⟩ := s2.get (cells_get R.len e h)
  exact ⟨v, e, F3, q⟩
theorem Rp.slotv (R : Rp K f H σ δ T) (h : δ[i]? = some (some d)) (e : σ[i]? = some (some v)) : ∃ F, OwnE K H v d F := by
  obtain ⟨w, e2, q⟩ := R.slot h
  rw [e] at e2
  cases e2
  exact q
/-- what a result's data says -/
theorem Rp.res (R : Rp K f H σ δ T) (m : (v, r) ∈ T) (h : rsv δ r = some d) : ∃ F, OwnE K H v d F := by
  cases r with
  | v e =>
    cases h
    obtain ⟨F, s, _⟩ := R.own
    obtain ⟨F1, F2, s1, s2, _⟩ := s.split
    obtain ⟨F3, q, _⟩ := s1.getm (v := v) (d := _) (List.mem_map.mpr ⟨_, m, rfl⟩)
    exact ⟨F3, q⟩
  | s j => exact R.slotv (get_join h) (R.tmp _ m j rfl)
  | p u j π =>
    have hg := rsv_of h
    unfold getP at hg
    cases q : δ[j]?.join with
    | none => rw [q] at hg; cases hg
    | some e =>
      rw [q] at hg
      obtain ⟨x, ex, F, o⟩ := R.slot (get_join q)
      obtain ⟨y, F1, F2, h1, _⟩ := own_takeP o hg
      obtain ⟨rfl, h1'⟩ := h1.of_tg
      obtain ⟨F, s, _⟩ := R.own
      obtain ⟨G1, G2, s1, s2, _⟩ := s.split
      obtain ⟨F3, q3, _⟩ := s1.getm (v := v) (d := .opq y) (List.mem_map.mpr ⟨_, m, rfl⟩)
      rw [q3.of_opq]
      exact ⟨F1, h1'⟩
theorem Rp.tail {c : V × Rs} (R : Rp K f H σ δ (c :: T)) : Rp K f H σ δ T := by
  obtain ⟨F, s, k⟩ := R.own
  exact ⟨R.len, R.has, ⟨F, s.tail, k⟩, fun c m => R.tmp c (List.mem_cons_of_mem _ m), R.fr, R.tx, R.pin⟩
theorem Rp.tail2 {c c' : V × Rs} (R : Rp K f H σ δ (c :: c' :: T)) : Rp K f H σ δ T := R.tail.tail
/-- some heap that keeps all -/
theorem Rp.same (R : Rp K f H σ δ T) (s : Same H H') : Rp K f H' σ δ T := by
  obtain ⟨F, h, k⟩ := R.own
  refine ⟨R.len, R.has, ?_, R.tmp, R.fr.step fun a u h _ => s _ _ h, R.tx.trans (.same s), R.pin⟩
  -- footprints hold what is tracked: what is not tracked is nobody's
  refine ⟨F, h.monoR fun v d F' m1 m2 r => ?_, k⟩
  obtain ⟨n, r⟩ := r
  refine ⟨n, ?_⟩
  clear h k m1 m2
  induction n generalizing v d F' with
  | zero => exact r
  | succ n ih =>
    rcases r with r | ⟨e, h1, h2⟩ | ⟨a, vs, h1, h2, h3, F2, h4, h5, h6⟩
    · exact .inl r
    · exact .inr (.inl ⟨e, h1, ih _ _ _ h2⟩)
    · refine .inr (.inr ⟨a, vs, h1, ?_, h3, F2, h4.monoR fun v d F' _ _ r => ih _ _ _ r, h5, h6⟩)
      cases d with
      | tup _ => exact (Tx.same s).sqt h2
      | tk _ => exact s _ _ h2
      | fz _ => exact (Tx.same s).fzl h2
      | lst _ => exact s _ _ h2
      | dK _ => exact s _ _ h2
      | dT _ => exact s _ _ h2
      | lkK _ => exact h2.elim fun o h => ⟨o, s _ _ h⟩
      | lkT _ _ _ => exact ⟨s _ _ h2.1, h2.2⟩
      | obj _ _ => exact h2.elim fun o h => ⟨o, s _ _ h⟩
      | fn _ => exact h2.elim fun L h => ⟨L, h.1, fun p m => ⟨(h.2 p m).1, s _ _ (h.2 p m).2⟩⟩
      | _ => exact h2.elim
theorem same_new (h : H p = none) : Same H (upd H p o) := fun b u e => by
  rw [upd_ne (ne_of_none e h)]
  exact e
theorem Rp.new (R : Rp K f H σ δ T) (h : H p = none) : Rp K f (upd H p o) σ δ T := R.same (same_new h)
theorem Rp.pushI (R : Rp K f H σ δ T) (h : OwnE K H v d F) (i : Imm d) : Rp K f H σ δ ((v, .v d) :: T) := by
  obtain ⟨F, s, k⟩ := R.own
  refine ⟨R.len, R.has, ⟨F, s.free (i _ _ _ _ h), k⟩, fun c m j e => ?_, R.fr, R.tx, R.pin⟩
  rcases List.mem_cons.mp m with m | m
  · rw [m] at e; cases e
  · exact R.tmp c m j e
theorem Rp.pushL (R : Rp K f H σ δ T) (h : leaf d = some v) : Rp K f H σ δ ((v, .v d) :: T) := R.pushI (F := fun _ => False) (.leaf h) (imm_leaf h)
theorem Rp.pushS (R : Rp K f H σ δ T) (h : σ[j]? = some (some v)) : Rp K f H σ δ ((v, .s j) :: T) := by
  obtain ⟨F, s, k⟩ := R.own
  refine ⟨R.len, R.has, ⟨F, s.free (.opq _ _), k⟩, fun c m i e => ?_, R.fr, R.tx, R.pin⟩
  rcases List.mem_cons.mp m with m | m
  · rw [m] at e ⊢; cases e; exact h
  · exact R.tmp c m i e
theorem Rp.pushP {π : List Nat} (R : Rp K f H σ δ T) : Rp K f H σ δ ((v, .p v j π) :: T) := by
  obtain ⟨F, s, k⟩ := R.own
  refine ⟨R.len, R.has, ⟨F, s.free (.opq _ _), k⟩, fun c m i e => ?_, R.fr, R.tx, R.pin⟩
  rcases List.mem_cons.mp m with m | m
  · rw [m] at e; cases e
  · exact R.tmp c m i e
/-- new cells by owning: what stands for what -/
theorem Rp.cellsTo (R : Rp K f H σ δ T) (hc : ∀ F, Sep (OwnE K H) (T.map tc) F → Sep (OwnE K H) (T'.map tc) F) (ht : ∀ c ∈ T', ∀ j, c.2 = .s j → c ∈ T) : Rp K f H σ δ T' := by
  obtain ⟨F, s, k⟩ := R.own
  obtain ⟨F1, F2, s1, s2, dj, k1, k2⟩ := s.split
  refine ⟨R.len, R.has, ⟨_, Sep.append (hc _ s1) s2 dj, fun x q => ?_⟩, fun c m j e => R.tmp c (ht c m j e) j e, R.fr, R.tx, R.pin⟩
  rcases q with q | q
  · exact k x (k1 x q)
  · exact k x (k2 x q)
/-- a new object of the topmost cells -/
theorem Rp.node {cs : List (V × Rs)} {vs : List V} (R : Rp K f H σ δ (cs ++ T)) (hp : H p = none) (hn : Node K (upd H p o) d p vs) (hl : vs.length = (kids d).length)
    (hk : ∀ F, Sep (OwnE K H) (cs.map tc) F → Sep (OwnE K H) (vs.zip (kids d)) F) : Rp K f (upd H p o) σ δ ((.ref p, .v d) :: T) := by
  obtain ⟨F, s, k⟩ := R.own
  rw [List.map_append, List.append_assoc] at s
  obtain ⟨F1, F2, s1, s2, dj, k1, k2⟩ := s.split
  have tn : Tx H (upd H p o) := Tx.new hp
  -- footprints without p
  have fp0 : f.F0 p ∨ f.H0 p = none := R.fr.none0 hp
  have cut : ∀ {cs : List (V × D)} {F : Fp}, Sep (OwnE K H) cs F → Sep (OwnE K (upd H p o)) cs (fun x => F x ∧ x ≠ p) := by
    intro cs F s
    have main : ∀ (n : Nat) (v : V) (d : D) (F : Fp), Own K H n v d F → Own K (upd H p o) n v d (fun x => F x ∧ x ≠ p) := by
      intro n
      induction n with
      | zero => exact fun v d F r => r
      | succ n ih =>
        intro v d F r
        rcases r with r | ⟨e, h1, h2⟩ | ⟨a, vs, h1, h2, h3, F2, h4, h5, h6⟩
        · exact .inl r
        · exact .inr (.inl ⟨e, h1, ih _ _ _ h2⟩)
        · have nap : isMut d = true → a ≠ p := by
            intro hm e
            subst e
            cases d with
            | lst _ => exact nomatch (show H a = some _ from h2).symm.trans hp
            | dK _ => exact nomatch (show H a = some _ from h2).symm.trans hp
            | dT _ => exact nomatch (show H a = some _ from h2).symm.trans hp
            | lkK _ => exact h2.elim fun o h => nomatch h.symm.trans hp
            | lkT _ _ _ => exact nomatch h2.1.symm.trans hp
            | obj _ _ => exact h2.elim fun o h => nomatch h.symm.trans hp
            | _ => cases hm
          refine .inr (.inr ⟨a, vs, h1, h2.frame tn fun hm => upd_ne (nap hm), h3, fun x => F2 x ∧ x ≠ p, ?_, fun x q => ⟨h5 x q.1, q.2⟩, fun hm => ⟨⟨(h6 hm).1, nap hm⟩, fun q => (h6 hm).2 q.1⟩⟩)
          have sm : ∀ {cs : List (V × D)} {F : Fp}, Sep (Own K H n) cs F → Sep (Own K (upd H p o) n) cs (fun x => F x ∧ x ≠ p) := by
            intro cs
            induction cs with
            | nil => exact fun _ => trivial
            | cons c cs ihc =>
              intro F ⟨G1, G2, g1, g2, g3, g4, g5⟩
              exact ⟨_, _, ih _ _ _ g1, ihc g2, fun x q z => g3 x q.1 z.1, fun x q => ⟨g4 x q.1, q.2⟩, fun x q => ⟨g5 x q.1, q.2⟩⟩
          exact sm h4
    induction cs generalizing F with
    | nil => trivial
    | cons c cs ih =>
      obtain ⟨G1, G2, ⟨n, g1⟩, g2, g3, g4, g5⟩ := s
      exact ⟨_, _, ⟨n, main _ _ _ _ g1⟩, ih g2, fun x q z => g3 x q.1 z.1, fun x q => ⟨g4 x q.1, q.2⟩, fun x q => ⟨g5 x q.1, q.2⟩⟩
  refine ⟨R.len, R.has, ⟨fun x => (F1 x ∨ x = p) ∨ F2 x, ⟨fun x => (F1 x ∧ x ≠ p) ∨ x = p, fun x => F2 x ∧ x ≠ p, ?_, cut s2, fun x q z => ?_, fun x q => ?_, fun x q => .inr q.1⟩, fun x q => ?_⟩, fun c m j e => ?_, R.fr.step fun a u h _ => same_new hp _ _ h, R.tx.trans tn, R.pin⟩
  · refine OwnE.node (F' := fun x => F1 x ∧ x ≠ p) hn hl (cut (hk _ s1)) (fun x q => .inl q) (fun _ => ⟨.inr rfl, fun q => q.2 rfl⟩)
  · rcases q with q | q
    · exact dj x q.1 z.1
    · exact z.2 q
  · rcases q with q | q
    · exact .inl (.inl q.1)
    · exact .inl (.inr q)
  · rcases q with (q | q) | q
    · exact k x (k1 x q)
    · rw [q]; exact fp0
    · exact k x (k2 x q)
  · rcases List.mem_cons.mp m with m | m
    · rw [m] at e; cases e
    · exact R.tmp c (List.mem_append_right _ m) j e
/-- the topmost value is stored -/
theorem Rp.store (R : Rp K f H σ δ ((v, .v d) :: T)) (hp : ∀ p ∈ f.pn, p ≠ i) (ht : ∀ c ∈ T, ∀ j, c.2 ≠ .s j) : Rp K f H (σ.set i (some v)) (δ.set i (some d)) T := by
  obtain ⟨F, s, k⟩ := R.own
  refine ⟨by simp [R.len], fun j e h => ?_, ⟨F, ?_, k⟩, fun c m j e => absurd e (ht c m j), R.fr, R.tx, fun p m => ?_⟩
  · by_cases q : j = i
    · subst q
      have hj := (List.getElem?_eq_some_iff.mp h).1
      rw [List.length_set] at hj
      exact ⟨v, List.getElem?_set_self (by rw [R.len]; exact hj)⟩
    · rw [List.getElem?_set_ne (Ne.symm q)] at h ⊢
      exact R.has j e h
  · have s' : Sep (OwnE K H) ((v, d) :: (T.map tc ++ cells σ δ)) F := s
    have g := s'.put (i := (T.map tc).length + i)
    rw [List.set_append_right _ _ (Nat.le_add_right _ _), Nat.add_sub_cancel_left] at g
    rw [cells_set]
    exact g
  · rw [List.getElem?_set_ne (Ne.symm (hp p m))]
    exact R.pin p m
/-- a slot's data taken out -/
theorem Rp.out (R : Rp K f H σ δ T) (h : δ[i]? = some (some d)) : ∃ v, σ[i]? = some (some v) ∧ Rp K f H σ (δ.set i (some (.opq v))) ((v, .v d) :: T) := by
  obtain ⟨v, e⟩ := R.has i d h
  obtain ⟨F, s, k⟩ := R.own
  have hi := (List.getElem?_eq_some_iff.mp h).1
  refine ⟨v, e, by simp [R.len], fun j x g => ?_, ⟨F, ?_, k⟩, fun c m j q => ?_, R.fr, R.tx, R.pin⟩
  · by_cases q : j = i
    · exact ⟨v, q ▸ e⟩
    · rw [List.getElem?_set_ne (Ne.symm q)] at g
      exact R.has j x g
  · have g := s.out (fun v F => OwnE.opq v F) (i := (T.map tc).length + i) (v := v) (d := d) (by
      rw [List.getElem?_append_right (Nat.le_add_right _ _), Nat.add_sub_cancel_left]
      exact cells_get R.len e h)
    rw [List.set_append_right _ _ (Nat.le_add_right _ _), Nat.add_sub_cancel_left] at g
    rw [cells_setd e]
    exact g
  · rcases List.mem_cons.mp m with m | m
    · rw [m] at q; cases q
    · exact R.tmp c m j q
/-- .. and put back -/
theorem Rp.back (R : Rp K f H σ δ ((v, .v d) :: T)) (e : σ[i]? = some (some v)) : Rp K f H σ (δ.set i (some d)) T := by
  obtain ⟨F, s, k⟩ := R.own
  refine ⟨by simp [R.len], fun j x g => ?_, ⟨F, ?_, k⟩, fun c m j q => R.tmp c (List.mem_cons_of_mem _ m) j q, R.fr, R.tx, R.pin⟩
  · by_cases q : j = i
    · exact ⟨v, q ▸ e⟩
    · rw [List.getElem?_set_ne (Ne.symm q)] at g
      exact R.has j x g
  · have s' : Sep (OwnE K H) ((v, d) :: (T.map tc ++ cells σ δ)) F := s
    have g := s'.put (i := (T.map tc).length + i)
    rw [List.set_append_right _ _ (Nat.le_add_right _ _), Nat.add_sub_cancel_left] at g
    rw [cells_setd e]
    exact g
/-- a part of a slot's data taken out, put back -/
theorem Rp.outP {π : List Nat} {c : D} (R : Rp K f H σ δ T) (h : getP δ i π = some c) : ∃ w, Rp K f H σ (setP δ i π (.opq w)) ((w, .v c) :: T) := by
  unfold getP at h
  unfold setP
  cases q : δ[i]?.join with
  | none => rw [q] at h; cases h
  | some d =>
    rw [q] at h
    obtain ⟨v, e, R1⟩ := R.out (get_join q)
    obtain ⟨F, s, k⟩ := R1.own
    obtain ⟨G1, G2, s1, s2, g3, g4, g5⟩ := s
    obtain ⟨w, F1, F2, h1, h2, h3, h4, h5⟩ := own_takeP s1 h
    have R2 : Rp K f H σ (δ.set i (some (.opq v))) ((v, .v (dSet d π (.opq w))) :: (w, .v c) :: T) := by
      refine ⟨R1.len, R1.has, ⟨F, ⟨F2, fun x => F1 x ∨ G2 x, h2, Sep.cons h1 s2 fun x z y => g3 x (h4 x z) y, fun x z y => ?_, fun x z => g4 x (h5 x z), fun x z => ?_⟩, k⟩, fun c' m j e' => ?_, R1.fr, R1.tx, R1.pin⟩
      · rcases y with y | y
        · exact h3 x y z
        · exact g3 x (h5 x z) y
      · rcases z with z | z
        · exact g4 x (h4 x z)
        · exact g5 x z
      · rcases List.mem_cons.mp m with m | m
        · rw [m] at e'; cases e'
        · rcases List.mem_cons.mp m with m | m
          · rw [m] at e'; cases e'
          · exact R.tmp c' m j e'
    have R3 := R2.back e
    rw [List.set_set] at R3
    exact ⟨w, R3⟩
theorem Rp.backP {π : List Nat} {c : D} (h : getP δ i π = some c) (R : Rp K f H σ (setP δ i π (.opq w)) ((w, .v e) :: T)) : Rp K f H σ (setP δ i π e) T := by
  unfold getP at h
  unfold setP at R ⊢
  cases q : δ[i]?.join with
  | none => rw [q] at h; cases h
  | some d =>
    rw [q] at h R
    have hi := (List.getElem?_eq_some_iff.mp (get_join q)).1
    obtain ⟨v, ev, R1⟩ := R.out (List.getElem?_set_self hi)
    rw [List.set_set] at R1
    obtain ⟨F, s, k⟩ := R1.own
    obtain ⟨G1, G2, s1, ⟨G3, G4, s3, s4, t3, t4, t5⟩, g3, g4, g5⟩ := s
    have o := own_giveP s1 h s3 fun x z y => g3 x y (t4 x z)
    have R2 : Rp K f H σ (δ.set i (some (.opq v))) ((v, .v (dSet d π e)) :: T) := by
      refine ⟨R1.len, R1.has, ⟨F, ⟨_, G4, o, s4, fun x z y => ?_, fun x z => ?_, fun x z => g5 x (t5 x z)⟩, k⟩, fun c' m j e' => ?_, R1.fr, R1.tx, R1.pin⟩
      · rcases z with z | z
        · exact t3 x z y
        · exact g3 x z (t5 x y)
      · rcases z with z | z
        · exact g5 x (t4 x z)
        · exact g4 x z
      · rcases List.mem_cons.mp m with m | m
        · rw [m] at e'; cases e'
        · exact R1.tmp c' (List.mem_cons_of_mem _ (List.mem_cons_of_mem _ m)) j e'
    have R3 := R2.back ev
    rw [List.set_set] at R3
    exact R3
/-- the top cell told otherwise -/
theorem Rp.tell {d' : D} (R : Rp K f H σ δ ((v, .v d) :: T)) (h : ∀ F, OwnE K H v d F → OwnE K H v d' F) : Rp K f H σ δ ((v, .v d') :: T) := by
  obtain ⟨F, s, k⟩ := R.own
  obtain ⟨F1, F2, s1, s2, r⟩ := s
  refine ⟨R.len, R.has, ⟨F, ⟨F1, F2, h _ s1, s2, r⟩, k⟩, fun c' m j e' => ?_, R.fr, R.tx, R.pin⟩
  rcases List.mem_cons.mp m with m | m
  · rw [m] at e'; cases e'
  · exact R.tmp c' (List.mem_cons_of_mem _ m) j e'
theorem Rp.tagP {π : List Nat} {c : D} (R : Rp K f H σ δ T) (h : getP δ i π = some c) : ∃ w, Rp K f H σ (setP δ i π (.tg w c)) T := by
  obtain ⟨w, R1⟩ := R.outP h
  exact ⟨w, Rp.backP h (R1.tell fun F o => o.tg)⟩
/-- an owned object is changed -/
theorem Rp.change {cs : List (V × Rs)} (R : Rp K f H σ δ ((.ref a, .v d) :: (cs ++ T))) (hm : isMut d = true) :
    ∃ vs, Node K H d a vs ∧ vs.length = (kids d).length ∧ ∀ (o : HO) (d' : D) (vs' : List V), Node K (upd H a o) d' a vs' → isMut d' = true → vs'.length = (kids d').length →
      (∀ F, Sep (OwnE K (upd H a o)) (vs.zip (kids d) ++ cs.map tc) F → Sep (OwnE K (upd H a o)) (vs'.zip (kids d')) F) → (∀ o' u, H a ≠ some (.frz o' u)) → Rp K f (upd H a o) σ δ ((.ref a, .v d') :: T) := by
  obtain ⟨F, s, k⟩ := R.own
  obtain ⟨F1, F2, h1, h2, h3, h4, h5⟩ := s
  have hl : leaf d = none := by cases d <;> first | rfl | cases hm
  have ht : ∀ w e, d ≠ .tg w e := by intro w e q; subst q; cases hm
  obtain ⟨a', vs, ea, hn, hlen, F3, k1, k2, k3⟩ := OwnE.of_node h1 hl ht
  cases ea
  refine ⟨vs, hn, hlen, fun o d' vs' hn' hm' hl' hk hfz => ?_⟩
  obtain ⟨ha, ha3⟩ := k3 hm
  have ntup : ∀ xs, H a ≠ some (.tup xs) := by
    intro xs q
    cases d with
    | lst _ => exact nomatch (show H a = some _ from hn).symm.trans q
    | dK _ => exact nomatch (show H a = some _ from hn).symm.trans q
    | dT _ => exact nomatch (show H a = some _ from hn).symm.trans q
    | lkK _ => exact hn.elim fun o h => nomatch h.symm.trans q
    | lkT _ _ _ => exact nomatch hn.1.symm.trans q
    | obj _ _ => exact hn.elim fun o h => nomatch h.symm.trans q
    | _ => cases hm
  have next : ∀ φ, H a ≠ some (.ext φ) := by
    intro xs q
    cases d with
    | lst _ => exact nomatch (show H a = some _ from hn).symm.trans q
    | dK _ => exact nomatch (show H a = some _ from hn).symm.trans q
    | dT _ => exact nomatch (show H a = some _ from hn).symm.trans q
    | lkK _ => exact hn.elim fun o h => nomatch h.symm.trans q
    | lkT _ _ _ => exact nomatch hn.1.symm.trans q
    | obj _ _ => exact hn.elim fun o h => nomatch h.symm.trans q
    | _ => cases hm
  have tn : Tx H (upd H a o) := fun b => ⟨fun xs q => by
    rw [upd_ne (fun z : b = a => ntup xs (z ▸ q))]
    exact q, fun o' u q => by
    rw [upd_ne (fun z : b = a => hfz o' u (z ▸ q))]
    exact q, fun φ q => by
    rw [upd_ne (fun z : b = a => next φ (z ▸ q))]
    exact q⟩
  have s2 : Sep (OwnE K H) (cs.map tc ++ (T.map tc ++ cells σ δ)) F2 := by
    have q : Sep (OwnE K H) ((cs ++ T).map tc ++ cells σ δ) F2 := h2
    rw [List.map_append, List.append_assoc] at q
    exact q
  obtain ⟨G1, G2, g1, g2, g3, g4, g5⟩ := s2.split
  have ne2 : ∀ x, F2 x → x ≠ a := fun x q z => h3 a ha (z ▸ q)
  have c1 : Sep (OwnE K (upd H a o)) (vs.zip (kids d)) F3 := k1.monoR fun v d F' _ q r => r.frame tn fun x z => upd_ne fun y => ha3 (q a (y ▸ z))
  have c2 : Sep (OwnE K (upd H a o)) (cs.map tc) G1 := g1.monoR fun v d F' _ q r => r.frame tn fun x z => upd_ne (ne2 x (g4 x (q x z)))
  have c3 : Sep (OwnE K (upd H a o)) (T.map tc ++ cells σ δ) G2 := g2.monoR fun v d F' _ q r => r.frame tn fun x z => upd_ne (ne2 x (g5 x (q x z)))
  have c4 := hk _ (Sep.append c1 c2 fun x q z => h3 x (k2 x q) (g4 x z))
  refine ⟨R.len, R.has, ⟨F, ⟨fun x => F1 x ∨ G1 x, G2, ?_, c3, fun x q z => ?_, fun x q => ?_, fun x q => h5 x (g5 x q)⟩, k⟩, fun c m j e => ?_, R.fr.step fun b u q1 q2 => ?_, R.tx.trans tn, R.pin⟩
  · refine OwnE.node hn' hl' c4 (fun x q => ?_) (fun _ => ⟨.inl ha, fun q => ?_⟩)
    · rcases q with q | q
      · exact .inl (k2 x q)
      · exact .inr q
    · rcases q with q | q
      · exact ha3 q
      · exact ne2 a (g4 a q) rfl
  · rcases q with q | q
    · exact h3 x q (g5 x z)
    · exact g3 x q z
  · rcases q with q | q
    · exact h4 x q
    · exact h5 x (g4 x q)
  · rcases List.mem_cons.mp m with m | m
    · rw [m] at e; cases e
    · exact R.tmp c (List.mem_cons_of_mem _ (List.mem_append_right _ m)) j e
  · have n : b ≠ a := fun z => by
      subst z
      rcases q2 with ⟨n1, n2⟩ | ⟨φ, e⟩
      · rcases k b (h4 b ha) with z | z
        · exact n1 z
        · exact n2 z
      · exact next φ (by rw [← e]; exact q1)
    rw [upd_ne n]
    exact q1
end
end Dl

namespace Dl
open PySem L2

/-! ### judgements -/
structure PlN (x : Str) : Prop where
  d : (x == ("__debug__" : Str)) = false
  c : (x == ("__classdict__" : Str)) = false
  n : x ≠ "__name__"
def tE (K : PySem.W.Frag) (f : Fm) (δ : Env) (Ψ : Rs → Env → Prop) : TE := fun σ H Q => ∃ T, Rp K f H σ δ T ∧ ∀ r δ' v H', Ψ r δ' → Rp K f H' σ δ' ((v, r) :: T) → Q v H'
def tT (K : PySem.W.Frag) (f : Fm) (δ : Env) (Ψ : Bool → Env → Prop) : TT := fun σ H Q => ∃ T, Rp K f H σ δ T ∧ ∀ b δ' H', Ψ b δ' → Rp K f H' σ δ' T → Q b H'
def tA (K : PySem.W.Frag) (f : Fm) (δ : Env) (Ψ : List Rs → Env → Prop) : TA := fun σ H Q => ∃ T, Rp K f H σ δ T ∧ ∀ rs δ' vs H', Ψ rs δ' → vs.length = rs.length → Rp K f H' σ δ' (vs.zip rs ++ T) → Q vs H'
structure Ph where
  nx : Env → Prop
  rt : D → Env → Prop
  bk : Env → Prop := fun _ => False
  ct : Env → Prop := fun _ => False
def tv (T : List (V × D)) : List (V × Rs) := T.map fun c => (c.1, .v c.2)
def tS (K : PySem.W.Frag) (f : Fm) (δ : Env) (Φ : Ph) : TS := fun E σ H => ∃ T, Rp K f H σ δ (tv T) ∧ (∀ δ' σ' H', Φ.nx δ' → Rp K f H' σ' δ' (tv T) → E.nx σ' H') ∧
  (∀ d δ' v σ' H', Φ.rt d δ' → Rp K f H' σ' δ' ((v, .v d) :: tv T) → E.rt v H') ∧ (∀ δ' σ' H', Φ.bk δ' → Rp K f H' σ' δ' (tv T) → E.bk σ' H') ∧ (∀ δ' σ' H', Φ.ct δ' → Rp K f H' σ' δ' (tv T) → E.ct σ' H')
structure DE (X : Cx) (f : Fm) (δ : Env) (e : Expr) (Ψ : Rs → Env → Prop) : Prop where
  h : PE X e (tE X.K f δ Ψ)
structure DT (X : Cx) (f : Fm) (δ : Env) (e : Expr) (Ψ : Bool → Env → Prop) : Prop where
  h : PT X e (tT X.K f δ Ψ)
structure DW (X : Cx) (f : Fm) (δ : Env) (e : Expr) (Ψ : Bool → Env → Prop) : Prop where
  h : PW X e (tT X.K f δ Ψ)
structure DA (X : Cx) (f : Fm) (δ : Env) (es : List Expr) (Ψ : List Rs → Env → Prop) : Prop where
  h : PA X es (tA X.K f δ Ψ)
structure DS (X : Cx) (f : Fm) (δ : Env) (st : Stmt) (Φ : Ph) : Prop where
  h : PS X st (tS X.K f δ Φ)
structure DB (X : Cx) (f : Fm) (δ : Env) (st : List Stmt) (Φ : Ph) : Prop where
  h : PSs X st (tS X.K f δ Φ)

section
variable {X : Cx} {f : Fm} {δ : Env} {e a b c : Expr} {es rest : List Expr} {st : Stmt} {sts : List Stmt} {pos p2 : Pos} {Ψ : Rs → Env → Prop} {Θ : Bool → Env → Prop} {Λ : List Rs → Env → Prop} {Φ : Ph}
theorem pe_imp {t t' : TE} (h : PE X e t) (i : ∀ σ H Q, t' σ H Q → t σ H Q) : PE X e t' := ⟨fun pins s σ H Q I q => h.run pins s σ H Q I (i σ H Q q)⟩
theorem pt_imp {t t' : TT} (h : PT X e t) (i : ∀ σ H Q, t' σ H Q → t σ H Q) : PT X e t' := ⟨fun pins s σ H Q I q => h.run pins s σ H Q I (i σ H Q q)⟩
theorem pw_imp {t t' : TT} (h : PW X e t) (i : ∀ σ H Q, t' σ H Q → t σ H Q) : PW X e t' := ⟨fun w pins s σ H Q I q => h.run w pins s σ H Q I (i σ H Q q)⟩
theorem pa_imp {t t' : TA} (h : PA X es t) (i : ∀ σ H Q, t' σ H Q → t σ H Q) : PA X es t' := ⟨fun pos pins s σ H Q I q => h.run pos pins s σ H Q I (i σ H Q q)⟩
theorem ps_imp {t t' : TS} (h : PS X st t) (i : ∀ E σ H, t' E σ H → t E σ H) : PS X st t' := ⟨fun pins s σ H E I q => h.run pins s σ H E I (i E σ H q)⟩
theorem pb_imp {t t' : TS} (h : PSs X sts t) (i : ∀ E σ H, t' E σ H → t E σ H) : PSs X sts t' := ⟨fun pins s σ H E I q => h.run pins s σ H E I (i E σ H q)⟩
theorem DE.of {t : TE} (h : PE X e t) (i : ∀ σ H Q, tE X.K f δ Ψ σ H Q → t σ H Q) : DE X f δ e Ψ := ⟨pe_imp h i⟩
theorem DT.of {t : TT} (h : PT X e t) (i : ∀ σ H Q, tT X.K f δ Θ σ H Q → t σ H Q) : DT X f δ e Θ := ⟨pt_imp h i⟩
theorem DW.of {t : TT} (h : PW X e t) (i : ∀ σ H Q, tT X.K f δ Θ σ H Q → t σ H Q) : DW X f δ e Θ := ⟨pw_imp h i⟩
theorem DA.of {t : TA} (h : PA X es t) (i : ∀ σ H Q, tA X.K f δ Λ σ H Q → t σ H Q) : DA X f δ es Λ := ⟨pa_imp h i⟩
theorem DS.of {t : TS} (h : PS X st t) (i : ∀ E σ H, tS X.K f δ Φ E σ H → t E σ H) : DS X f δ st Φ := ⟨ps_imp h i⟩
theorem DB.of {t : TS} (h : PSs X sts t) (i : ∀ E σ H, tS X.K f δ Φ E σ H → t E σ H) : DB X f δ sts Φ := ⟨pb_imp h i⟩
/-- the universal readings: whatever is proved of it -/
def uE (X : Cx) (f : Fm) (e : Expr) : TE := fun σ H Q => ∃ δ Ψ, DE X f δ e Ψ ∧ tE X.K f δ Ψ σ H Q
def uT (X : Cx) (f : Fm) (e : Expr) : TT := fun σ H Q => ∃ δ Ψ, DT X f δ e Ψ ∧ tT X.K f δ Ψ σ H Q
def uW (X : Cx) (f : Fm) (e : Expr) : TT := fun σ H Q => ∃ δ Ψ, DW X f δ e Ψ ∧ tT X.K f δ Ψ σ H Q
def uA (X : Cx) (f : Fm) (es : List Expr) : TA := fun σ H Q => ∃ δ Ψ, DA X f δ es Ψ ∧ tA X.K f δ Ψ σ H Q
def uB (X : Cx) (f : Fm) (sts : List Stmt) : TS := fun E σ H => ∃ δ Φ, DB X f δ sts Φ ∧ tS X.K f δ Φ E σ H
theorem pe_u : PE X e (uE X f e) := ⟨fun pins s σ H Q I ⟨_, _, h, q⟩ => h.h.run pins s σ H Q I q⟩
theorem pt_u : PT X e (uT X f e) := ⟨fun pins s σ H Q I ⟨_, _, h, q⟩ => h.h.run pins s σ H Q I q⟩
theorem pw_u : PW X e (uW X f e) := ⟨fun w pins s σ H Q I ⟨_, _, h, q⟩ => h.h.run w pins s σ H Q I q⟩
theorem pa_u : PA X es (uA X f es) := ⟨fun pos pins s σ H Q I ⟨_, _, h, q⟩ => h.h.run pos pins s σ H Q I q⟩
theorem pb_u : PSs X sts (uB X f sts) := ⟨fun pins s σ H E I ⟨_, _, h, q⟩ => h.h.run pins s σ H E I q⟩
theorem DE.mono {Ψ' : Rs → Env → Prop} (h : DE X f δ e Ψ) (i : ∀ r δ', Ψ r δ' → Ψ' r δ') : DE X f δ e Ψ' := DE.of h.h fun σ H Q ⟨T, R, q⟩ => ⟨T, R, fun r δ' v H' p => q r δ' v H' (i r δ' p)⟩
theorem DT.mono {Θ' : Bool → Env → Prop} (h : DT X f δ e Θ) (i : ∀ r δ', Θ r δ' → Θ' r δ') : DT X f δ e Θ' := DT.of h.h fun σ H Q ⟨T, R, q⟩ => ⟨T, R, fun r δ' H' p => q r δ' H' (i r δ' p)⟩

/-! ### where one stands -/
structure Bd (X : Cx) (N : List Str) (sc : Scope) : Prop where
  eN : X.N = N
  eS : X.env.scope = sc
  calm : X.calm = true
  nd : N.Nodup
  pass : PassesOwn (model X.prog X.w) X.A X.env X.xe
structure Jn (X : Cx) (P : Program) (w : World) (K : PySem.W.Frag) (mg : Str → Option Value) (base : Heap) : Prop where
  prog : X.prog = P
  w : X.w = w
  K : X.K = K
  mg : X.mg = mg
  base : X.base = base
/-- what the scope says of a name; the slot of a name -/
def Nm (sc : Scope) (x : Str) (k : NameKind) : Prop := sc.names.lookup x = some k
def Sl (N : List Str) (i : Nat) (x : Str) : Prop := N[i]? = some x
abbrev Gls (sc : Scope) (x : Str) : Prop := Nm sc x .globalImplicit
/-- a name that may be stored here -/
def Sto (X : Cx) (sc : Scope) (x : Str) : Prop := sc.names.lookup x = some .local ∨ (sc.names.lookup x = some .cell ∧ ∀ x, X.fn x = true)
theorem Bd.vis {N : List Str} {sc : Scope} (B : Bd X N sc) {x : Str} (h : Vis sc x) : Vis X.env.scope x := by
  rw [B.eS]
  exact h
theorem Bd.loc {N : List Str} {sc : Scope} (B : Bd X N sc) {x : Str} (h : Sto X sc x) : Loc X.env.scope x := by
  rw [B.eS]
  exact h.elim .inl fun h => .inr h.1
theorem Bd.ix {N : List Str} {sc : Scope} (B : Bd X N sc) {i : Nat} {x : Str} (h : N[i]? = some x) : X.N[i]? = some x := by
  rw [B.eN]
  exact h
theorem Bd.ndX {N : List Str} {sc : Scope} (B : Bd X N sc) : X.N.Nodup := by
  rw [B.eN]
  exact B.nd
theorem Bd.glob {N : List Str} {sc : Scope} (B : Bd X N sc) {x : Str} (h : Gls sc x) : Gl X x := by
  show X.env.scope.names.lookup x = _
  rw [B.eS]
  exact h
theorem Bd.hf {N : List Str} {sc : Scope} (B : Bd X N sc) {x : Str} (h : Sto X sc x) : X.fn x = true ∨ X.env.scope.names.lookup x = some .local := by
  rcases h with h | h
  · exact .inr (by rw [B.eS]; exact h)
  · exact .inl (h.2 x)
variable {N : List Str} {sc : Scope}
/-- a name that is read, by its kind -/
def Own1 : NameKind → Bool
  | .local => true
  | .cell => true
  | .free => true
  | _ => false
theorem Nm.vis {x : Str} {k : NameKind} (h : Nm sc x k) (o : Own1 k = true) : Vis sc x := by
  cases k with
  | «local» => exact .inl h
  | cell => exact .inr (.inl h)
  | free => exact .inr (.inr h)
  | _ => cases o
theorem Nm.sto {x : Str} (h : Nm sc x .local) : Sto X sc x := .inl h
theorem Nm.stoC {x : Str} (h : Nm sc x .cell) (a : ∀ x, X.fn x = true) : Sto X sc x := .inr ⟨h, a⟩
/-! ### names, constants -/
theorem de_name {i : Nat} {x : Str} {d : D} (B : Bd X N sc) (hN : Sl N i x) (hv : Vis sc x) (hd : δ[i]? = some (some d)) (hi : Imm d) (k : Ψ (.v d) δ) (h1 : (x == ("__debug__" : Str)) = false := by first | exact PlN.d (by with_reducible assumption) | decide) (h2 : (x == ("__classdict__" : Str)) = false := by first | exact PlN.c (by with_reducible assumption) | decide) : DE X f δ (.Name x pos) Ψ :=
  DE.of (pe_var (B.ix hN) (B.vis hv) h1 h2) fun σ H Q ⟨T, R, q⟩ => by
    obtain ⟨v, e, F, o⟩ := R.slot hd
    exact ⟨v, e, q _ _ _ _ k (R.pushI o hi)⟩
theorem de_slot {i : Nat} {x : Str} {d : D} (B : Bd X N sc) (hN : Sl N i x) (hv : Vis sc x) (hd : δ[i]? = some (some d)) (k : Ψ (.s i) δ) (h1 : (x == ("__debug__" : Str)) = false := by first | exact PlN.d (by with_reducible assumption) | decide) (h2 : (x == ("__classdict__" : Str)) = false := by first | exact PlN.c (by with_reducible assumption) | decide) : DE X f δ (.Name x pos) Ψ :=
  DE.of (pe_var (B.ix hN) (B.vis hv) h1 h2) fun σ H Q ⟨T, R, q⟩ => by
    obtain ⟨v, e, F, o⟩ := R.slot hd
    exact ⟨v, e, q _ _ _ _ k (R.pushS e)⟩
theorem de_int {i : Int} {j} (k : Ψ (.v (.int i)) δ) : DE X f δ (.Constant (.int i) j pos) Ψ := DE.of pe_int fun σ H Q ⟨T, R, q⟩ => q _ _ _ _ k (R.pushL rfl)
theorem de_bl {i : Bool} {j} (k : Ψ (.v (.bl i)) δ) : DE X f δ (.Constant (.bool i) j pos) Ψ := DE.of pe_bl fun σ H Q ⟨T, R, q⟩ => q _ _ _ _ k (R.pushL rfl)
theorem de_non {j} (k : Ψ (.v .non) δ) : DE X f δ (.Constant .none j pos) Ψ := DE.of pe_non fun σ H Q ⟨T, R, q⟩ => q _ _ _ _ k (R.pushL rfl)
theorem de_str {i : Str} {j} (k : Ψ (.v (.str i)) δ) : DE X f δ (.Constant (.str i) j pos) Ψ := DE.of pe_str fun σ H Q ⟨T, R, q⟩ => q _ _ _ _ k (R.pushL rfl)
/-- a module's constant -/
def GlobD (K : PySem.W.Frag) (mg : Str → Option Value) (x : Str) (d : D) : Prop := Imm d ∧ ∃ v u, mg x = some u ∧ RelV v u ∧ ∀ H, OwnE K H v d fun _ => False
theorem de_glob {x : Str} {d : D} {P : Program} {w : World} {K : PySem.W.Frag} {mg : Str → Option Value} {base : Heap} (B : Bd X N sc) (J : Jn X P w K mg base) (hg : Gls sc x) (h : GlobD K mg x d) (k : Ψ (.v d) δ) (h1 : (x == ("__debug__" : Str)) = false := by first | exact PlN.d (by with_reducible assumption) | decide) : DE X f δ (.Name x pos) Ψ := by
  obtain ⟨rfl, rfl, rfl, rfl, rfl⟩ := J
  obtain ⟨hi, v, u, hm, r, o⟩ := h
  exact DE.of (pe_glob (B.glob hg) hm r h1) fun σ H Q ⟨T, R, q⟩ => q _ _ _ _ k (R.pushI (o H) hi)

/-! ### two operands -/
/-- what an operation on two results must do -/
def Op2 (K : PySem.W.Frag) (f : Fm) (δ : Env) (r : R2) (ra rb : Rs) (P : D → Prop) : Prop :=
  ∀ (H : Hp) (σ : St) (T : List (V × Rs)) (x y : V) (Q : VK), Rp K f H σ δ ((y, rb) :: (x, ra) :: T) → (∀ d v H', P d → Rp K f H' σ δ ((v, .v d) :: T) → Q v H') → r x y H Q
theorem de_op2 {op : Operator} {r : R2} (ho : OpR X (binaryOp op) r) (h : DE X f δ a fun ra δ1 => DE X f δ1 b fun rb δ2 => Op2 X.K f δ2 r ra rb fun d => Ψ (.v d) δ2) : DE X f δ (.BinOp a op b pos) Ψ :=
  DE.of (pe_op ho h.h (pe_u (f := f))) fun σ H Q ⟨T, R, q⟩ => ⟨T, R, fun ra δ1 x H1 hb R1 => ⟨δ1, _, hb, (x, ra) :: T, R1, fun rb δ2 y H2 ho R2 => ho H2 σ T x y Q R2 fun d v H' p R' => q _ _ _ _ p R'⟩⟩
theorem de_cmp2 {op : CmpOp} {r : R2} (ho : OpR X (compareOp op) r) (h : DE X f δ a fun ra δ1 => DE X f δ1 b fun rb δ2 => Op2 X.K f δ2 r ra rb fun d => Ψ (.v d) δ2) (hm : behindInMarks op b = false) : DE X f δ (.Compare a [op] [b] pos) Ψ :=
  DE.of (pe_cmpR ho h.h (pe_u (f := f)) hm) fun σ H Q ⟨T, R, q⟩ => ⟨T, R, fun ra δ1 x H1 hb R1 => ⟨δ1, _, hb, (x, ra) :: T, R1, fun rb δ2 y H2 ho R2 => ho H2 σ T x y Q R2 fun d v H' p R' => q _ _ _ _ p R'⟩⟩
theorem de_ix2 {r : R2} (hr : IxR X r) (hs : PlainIx b) (h : DE X f δ a fun ra δ1 => DE X f δ1 b fun rb δ2 => Op2 X.K f δ2 r ra rb fun d => Ψ (.v d) δ2) : DE X f δ (.Subscript a b pos) Ψ :=
  DE.of (pe_ix hr h.h (pe_u (f := f)) hs) fun σ H Q ⟨T, R, q⟩ => ⟨T, R, fun ra δ1 x H1 hb R1 => ⟨δ1, _, hb, (x, ra) :: T, R1, fun rb δ2 y H2 ho R2 => ho H2 σ T x y Q R2 fun d v H' p R' => q _ _ _ _ p R'⟩⟩
end

section
variable {K : PySem.W.Frag} {f : Fm} {δ : Env} {ra rb : Rs} {P : D → Prop} {r r' : R2}
theorem op2_l (h : Op2 K f δ r ra rb P) : Op2 K f δ (fun x y H Q => r x y H Q ∨ r' x y H Q) ra rb P := fun H σ T x y Q R q => .inl (h H σ T x y Q R q)
theorem op2_r (h : Op2 K f δ r' ra rb P) : Op2 K f δ (fun x y H Q => r x y H Q ∨ r' x y H Q) ra rb P := fun H σ T x y Q R q => .inr (h H σ T x y Q R q)
theorem Rp.vint {H : Hp} {σ : St} {T : List (V × Rs)} {v : V} {i : Int} (R : Rp K f H σ δ T) (m : (v, Rs.v (.int i)) ∈ T) : v = .int i := by
  obtain ⟨F, o⟩ := R.res m rfl
  exact o.of_int
theorem Rp.vstr {H : Hp} {σ : St} {T : List (V × Rs)} {v : V} {i : Str} (R : Rp K f H σ δ T) (m : (v, Rs.v (.str i)) ∈ T) : v = .str i := by
  obtain ⟨F, o⟩ := R.res m rfl
  exact o.of_str
theorem Rp.vbl {H : Hp} {σ : St} {T : List (V × Rs)} {v : V} {i : Bool} (R : Rp K f H σ δ T) (m : (v, Rs.v (.bl i)) ∈ T) : v = .bl i := by
  obtain ⟨F, o⟩ := R.res m rfl
  exact o.of_bl
theorem Rp.vleaf {H : Hp} {σ : St} {T : List (V × Rs)} {v w : V} {d : D} (R : Rp K f H σ δ T) (m : (v, Rs.v d) ∈ T) (h : leaf d = some w) : v = w := by
  obtain ⟨F, o⟩ := R.res m rfl
  exact o.of_leaf h
theorem op2_I0 {g : Int → Int → V} {k : Int → Int → D} (hg : ∀ i j, leaf (k i j) = some (g i j)) {i j : Int} (p : P (k i j)) : Op2 K f δ (rI0 g) (.v (.int i)) (.v (.int j)) P := fun H σ T x y Q R q => by
  cases R.vint (v := y) (i := j) (by simp)
  cases R.vint (v := x) (i := i) (by simp)
  exact ⟨i, j, rfl, rfl, q _ _ _ p (R.tail2.pushL (hg i j))⟩
theorem op2_I {C : Int → Int → Prop} {g : Int → Int → V} {k : Int → Int → D} (hg : ∀ i j, leaf (k i j) = some (g i j)) {i j : Int} (hc : C i j) (p : P (k i j)) : Op2 K f δ (rI C g) (.v (.int i)) (.v (.int j)) P := fun H σ T x y Q R q => by
  cases R.vint (v := y) (i := j) (by simp)
  cases R.vint (v := x) (i := i) (by simp)
  exact ⟨i, j, rfl, rfl, hc, q _ _ _ p (R.tail2.pushL (hg i j))⟩
/-- the items of what may be read as a row of items -/
def itemsOf : D → Option (List D)
  | .tup xs => some xs
  | .tk xs => some xs
  | .lst xs => some xs
  | .fz xs => some xs
  | _ => none
theorem own_items {H : Hp} {v : V} {d : D} {ds : List D} {F : Fp} (o : OwnE K H v d F) (h : itemsOf d = some ds) : ∃ p vs, v = .ref p ∧ (SqL K H p vs ∨ SqT K H p vs) ∧ vs.length = ds.length ∧ ∃ F', Sep (OwnE K H) (vs.zip ds) F' := by
  cases d with
  | tup xs =>
    cases h
    obtain ⟨a, vs, rfl, h2, h3, F', h4, _⟩ := o.of_node rfl (fun _ _ q => nomatch q)
    exact ⟨a, vs, rfl, .inr h2, h3, F', h4⟩
  | tk xs =>
    cases h
    obtain ⟨a, vs, rfl, h2, h3, F', h4, _⟩ := o.of_node rfl (fun _ _ q => nomatch q)
    exact ⟨a, vs, rfl, .inr (.inl (.inl h2)), h3, F', h4⟩
  | lst xs =>
    cases h
    obtain ⟨a, vs, rfl, h2, h3, F', h4, _⟩ := o.of_node rfl (fun _ _ q => nomatch q)
    exact ⟨a, vs, rfl, .inl (SqL.of h2), h3, F', h4⟩
  | fz xs =>
    cases h
    obtain ⟨a, vs, rfl, h2, h3, F', h4, _⟩ := o.of_node rfl (fun _ _ q => nomatch q)
    refine ⟨a, vs, rfl, .inl ?_, h3, F', h4⟩
    rcases h2 with ⟨o, h2⟩ | h2
    · exact .inl (.inr ⟨o, h2⟩)
    · exact .inr h2
  | _ => cases h
theorem own_lst {H : Hp} {v : V} {ds : List D} {F : Fp} (o : OwnE K H v (.lst ds) F) : ∃ p vs, v = .ref p ∧ H p = some (.lst vs) ∧ vs.length = ds.length ∧ ∃ F', Sep (OwnE K H) (vs.zip ds) F' := by
  obtain ⟨a, vs, rfl, h2, h3, F', h4, _⟩ := o.of_node rfl (fun _ _ q => nomatch q)
  exact ⟨a, vs, rfl, h2, h3, F', h4⟩
theorem own_tup {H : Hp} {v : V} {ds : List D} {F : Fp} (o : OwnE K H v (.tup ds) F) : ∃ p vs, v = .ref p ∧ SqT K H p vs ∧ vs.length = ds.length ∧ ∃ F', Sep (OwnE K H) (vs.zip ds) F' := by
  obtain ⟨a, vs, rfl, h2, h3, F', h4, _⟩ := o.of_node rfl (fun _ _ q => nomatch q)
  exact ⟨a, vs, rfl, h2, h3, F', h4⟩
theorem zip_get {vs : List V} {ds : List D} (hl : vs.length = ds.length) {j : Nat} {d : D} (h : ds[j]? = some d) : ∃ v, vs[j]? = some v ∧ (vs.zip ds)[j]? = some (v, d) := by
  have hj := (List.getElem?_eq_some_iff.mp h).1
  refine ⟨vs[j]'(by omega), List.getElem?_eq_getElem (by omega), ?_⟩
  rw [List.getElem?_zip_eq_some]
  exact ⟨List.getElem?_eq_getElem (by omega), h⟩
theorem atI_zip {vs : List V} {ds : List D} (hl : vs.length = ds.length) {i : Int} {d : D} (h : atI ds i = some d) : ∃ v, atI vs i = some v ∧ (v, d) ∈ vs.zip ds := by
  unfold atI at h ⊢
  rw [hl]
  cases q : ixN ds.length i with
  | none => rw [q] at h; cases h
  | some j =>
    rw [q] at h
    obtain ⟨v, e1, e2⟩ := zip_get hl (show ds[j]? = some d from h)
    exact ⟨v, e1, List.mem_of_getElem? e2⟩
/-- xs[i] of a list, a tuple, a frozen list; the item can be copied -/
theorem op2_ix {d : D} {ds : List D} {i : Int} {d' : D} (h : rsv δ ra = some d) (hi : itemsOf d = some ds) (ha : atI ds i = some d') (im : Imm d') (p : P d') : Op2 K f δ (rIx K) ra (.v (.int i)) P := fun H σ T x y Q R q => by
  cases R.vint (v := y) (i := i) (by simp)
  obtain ⟨F, o⟩ := R.res (v := x) (r := ra) (by simp) h
  obtain ⟨p', vs, rfl, hs, hl, F', sp⟩ := own_items o hi
  obtain ⟨v, e1, e2⟩ := atI_zip hl ha
  obtain ⟨F2, o2, _⟩ := sp.getm e2
  have R' : Rp K f H σ δ ((v, .v d') :: T) := R.tail2.pushI o2 im
  rcases hs with hs | hs
  · exact .inl ⟨p', vs, i, v, rfl, rfl, hs, e1, q _ _ _ p R'⟩
  · exact .inr (.inl ⟨p', vs, i, v, rfl, rfl, hs, e1, q _ _ _ p R'⟩)
theorem op2_ixS {z : Str} {i : Int} {c : Nat} (hz : z.length ≤ sizeLine) (ha : atI z.cps.toList i = some c) (p : P (.str ⟨#[c]⟩)) : Op2 K f δ (rIx K) (.v (.str z)) (.v (.int i)) P := fun H σ T x y Q R q => by
  cases R.vint (v := y) (i := i) (by simp)
  cases R.vstr (v := x) (i := z) (by simp)
  exact .inr (.inr ⟨z, i, c, rfl, rfl, hz, ha, q _ _ _ p (R.tail2.pushL rfl)⟩)
end

/-- both ints -/
inductive I2 : Rs → Rs → (Int → Int → Prop) → Prop
  | mk {i j : Int} {P : Int → Int → Prop} : P i j → I2 (.v (.int i)) (.v (.int j)) P
/-- both leaves -/
inductive L2s : Rs → Rs → (V → V → Prop) → Prop
  | mk {d e : D} {v w : V} {P : V → V → Prop} : leaf d = some v → leaf e = some w → P v w → L2s (.v d) (.v e) P
/-! ### + -/
def rAdd (K : PySem.W.Frag) : R2 := fun x y H Q => (rI0 (fun i j => .int (i + j)) x y H Q ∨ (∃ i j, x = .str i ∧ y = .str j ∧ i.length + j.length ≤ sizeLine ∧ Q (.str (i ++ j)) H)) ∨ (rCat x y H Q ∨ rCatA K x y H Q)
theorem op_addA {X : Cx} : OpR X (binaryOp .Add) (rAdd X.K) := OpR.or (OpR.or op_add op_add_str) (OpR.or op_cat op_catA)
inductive AddS (δ : Env) : Rs → Rs → (D → Prop) → Prop
  | int {i j : Int} {P : D → Prop} : P (.int (i + j)) → AddS δ (.v (.int i)) (.v (.int j)) P
  | str {i j : Str} {P : D → Prop} : i.length + j.length ≤ sizeLine → P (.str (i ++ j)) → AddS δ (.v (.str i)) (.v (.str j)) P
  | lst {ra rb : Rs} {xs ys : List D} {P : D → Prop} : rsv δ ra = some (.lst xs) → rsv δ rb = some (.lst ys) → (∀ x ∈ xs ++ ys, Imm x) → xs.length + ys.length ≤ sizeLine → P (.lst (xs ++ ys)) → AddS δ ra rb P
  | tup {ra rb : Rs} {xs ys : List D} {P : D → Prop} : rsv δ ra = some (.tup xs) → rsv δ rb = some (.tup ys) → (∀ x ∈ xs ++ ys, Imm x) → xs.length + ys.length ≤ sizeLine → P (.tup (xs ++ ys)) → AddS δ ra rb P
section
variable {K : PySem.W.Frag} {f : Fm} {δ : Env} {ra rb : Rs} {P : D → Prop} {r r' : R2}
theorem zip_app {vs ws : List V} {xs ys : List D} (h : vs.length = xs.length) : (vs ++ ws).zip (xs ++ ys) = vs.zip xs ++ ws.zip ys := List.zip_append h
theorem Rp.newI {H : Hp} {σ : St} {T : List (V × Rs)} {p : Addr} {o : HO} {d : D} {vs : List V} (R : Rp K f H σ δ T) (hp : H p = none) (hn : Node K (upd H p o) d p vs) (hl : vs.length = (kids d).length)
    (hk : ∀ c ∈ vs.zip (kids d), OwnE K H c.1 c.2 fun _ => False) : Rp K f (upd H p o) σ δ ((.ref p, .v d) :: T) :=
  Rp.node (cs := []) R hp hn hl fun F _ => (Sep.freeAll hk).monoF fun _ q => q.elim
theorem sep_imm {H : Hp} {F : Fp} {vs : List V} {ds : List D} (s : Sep (OwnE K H) (vs.zip ds) F) (hi : ∀ x ∈ ds, Imm x) : ∀ c ∈ vs.zip ds, OwnE K H c.1 c.2 fun _ => False := fun c m => by
  obtain ⟨F1, o, _⟩ := s.getm (v := c.1) (d := c.2) m
  exact hi _ (zip_snd m) _ _ _ _ o
theorem AddS.op (h : AddS δ ra rb P) : Op2 K f δ (rAdd K) ra rb P := by
  cases h with
  | int p => exact op2_l (op2_l (op2_I0 (k := fun i j => .int (i + j)) (fun _ _ => rfl) p))
  | @str i j _ hz p =>
    intro H σ T x y Q R q
    cases R.vstr (v := y) (i := j) (by simp)
    cases R.vstr (v := x) (i := i) (by simp)
    exact .inl (.inr ⟨i, j, rfl, rfl, hz, q _ _ _ p (R.tail2.pushL rfl)⟩)
  | @lst _ _ xs ys _ h1 h2 hi hz p =>
    intro H σ T x y Q R q
    obtain ⟨F, o1⟩ := R.res (v := x) (r := ra) (by simp) h1
    obtain ⟨F, o2⟩ := R.res (v := y) (r := rb) (by simp) h2
    obtain ⟨l, vs, rfl, e1, l1, F1, s1⟩ := own_lst o1
    obtain ⟨b, ws, rfl, e2, l2, F2, s2⟩ := own_lst o2
    refine .inr (.inl ⟨l, b, vs, ws, rfl, rfl, e1, e2, by omega, fun p' hp => q _ _ _ p ?_⟩)
    refine R.tail2.newI hp (show upd H p' _ p' = _ from upd_same) (by show (vs ++ ws).length = (xs ++ ys).length; simp [l1, l2]) fun c m => ?_
    have m' : c ∈ (vs ++ ws).zip (xs ++ ys) := m
    rw [zip_app l1] at m'
    rcases List.mem_append.mp m' with m' | m'
    · exact sep_imm s1 (fun x hx => hi x (List.mem_append_left _ hx)) c m'
    · exact sep_imm s2 (fun x hx => hi x (List.mem_append_right _ hx)) c m'
  | @tup _ _ xs ys _ h1 h2 hi hz p =>
    intro H σ T x y Q R q
    obtain ⟨F, o1⟩ := R.res (v := x) (r := ra) (by simp) h1
    obtain ⟨F, o2⟩ := R.res (v := y) (r := rb) (by simp) h2
    have i1 : Imm (.tup xs) := imm_tup fun x hx => hi x (List.mem_append_left _ hx)
    have i2 : Imm (.tup ys) := imm_tup fun x hx => hi x (List.mem_append_right _ hx)
    obtain ⟨l, vs, rfl, e1, l1, F1, s1⟩ := own_tup o1
    obtain ⟨b, ws, rfl, e2, l2, F2, s2⟩ := own_tup o2
    refine .inr (.inr ⟨l, b, vs, ws, rfl, rfl, e1, e2, by omega, fun hx => ?_, fun _ hy => ?_, fun _ _ p' hp => q _ _ _ p ?_⟩)
    · have ex : xs = [] := List.length_eq_zero_iff.mp (by rw [← l1, hx]; rfl)
      subst ex
      exact q _ _ _ p (R.tail2.pushI o2 i2)
    · have ex : ys = [] := List.length_eq_zero_iff.mp (by rw [← l2, hy]; rfl)
      subst ex
      rw [List.append_nil] at p
      exact q _ _ _ p (R.tail2.pushI o1 i1)
    · refine R.tail2.newI hp (show SqT K (upd H p' _) p' _ from SqT.of upd_same) (by show (vs ++ ws).length = (xs ++ ys).length; simp [l1, l2]) fun c m => ?_
      have m' : c ∈ (vs ++ ws).zip (xs ++ ys) := m
      rw [zip_app l1] at m'
      rcases List.mem_append.mp m' with m' | m'
      · exact sep_imm s1 (fun x hx => hi x (List.mem_append_left _ hx)) c m'
      · exact sep_imm s2 (fun x hx => hi x (List.mem_append_right _ hx)) c m'
end
section
variable {X : Cx} {f : Fm} {δ : Env} {e a b c : Expr} {es rest : List Expr} {st : Stmt} {sts : List Stmt} {pos p2 : Pos} {Ψ : Rs → Env → Prop} {Θ : Bool → Env → Prop} {Λ : List Rs → Env → Prop} {Φ : Ph}
theorem de_add (h : DE X f δ a fun ra δ1 => DE X f δ1 b fun rb δ2 => AddS δ2 ra rb fun d => Ψ (.v d) δ2) : DE X f δ (.BinOp a .Add b pos) Ψ :=
  de_op2 op_addA (h.mono fun _ _ h => h.mono fun _ _ h => h.op)
theorem de_sub (h : DE X f δ a fun ra δ1 => DE X f δ1 b fun rb δ2 => I2 ra rb fun i j => Ψ (.v (.int (i - j))) δ2) : DE X f δ (.BinOp a .Sub b pos) Ψ :=
  de_op2 op_sub (h.mono fun _ _ h => h.mono fun _ _ k => by cases k with | mk k => exact op2_I0 (k := fun i j => .int (i - j)) (fun _ _ => rfl) k)
theorem de_mod (h : DE X f δ a fun ra δ1 => DE X f δ1 b fun rb δ2 => I2 ra rb fun i j => 0 < j ∧ Ψ (.v (.int (i % j))) δ2) : DE X f δ (.BinOp a .Mod b pos) Ψ :=
  de_op2 op_mod (h.mono fun _ _ h => h.mono fun _ _ k => by cases k with | mk k => exact op2_I (k := fun i j => .int (i % j)) (fun _ _ => rfl) k.1 k.2)
theorem de_fdiv (h : DE X f δ a fun ra δ1 => DE X f δ1 b fun rb δ2 => I2 ra rb fun i j => (0 < j ∧ j < 1073741824) ∧ Ψ (.v (.int (i / j))) δ2) : DE X f δ (.BinOp a .FloorDiv b pos) Ψ :=
  de_op2 op_fdiv (h.mono fun _ _ h => h.mono fun _ _ k => by cases k with | mk k => exact op2_I (k := fun i j => .int (i / j)) (fun _ _ => rfl) k.1 k.2)
theorem de_pow (h : DE X f δ a fun ra δ1 => DE X f δ1 b fun rb δ2 => I2 ra rb fun i j => CPow i j ∧ Ψ (.v (.int (i ^ j.toNat))) δ2) : DE X f δ (.BinOp a .Pow b pos) Ψ :=
  de_op2 op_pow (h.mono fun _ _ h => h.mono fun _ _ k => by cases k with | mk k => exact op2_I (k := fun i j => .int (i ^ j.toNat)) (fun _ _ => rfl) k.1 k.2)
/-- xs[i] -/
inductive IxS (δ : Env) : Rs → Rs → (D → Prop) → Prop
  | seq {ra : Rs} {d : D} {ds : List D} {i : Int} {d' : D} {P : D → Prop} : rsv δ ra = some d → itemsOf d = some ds → atI ds i = some d' → Imm d' → P d' → IxS δ ra (.v (.int i)) P
  | str {z : Str} {i : Int} {c : Nat} {P : D → Prop} : z.length ≤ sizeLine → atI z.cps.toList i = some c → P (.str ⟨#[c]⟩) → IxS δ (.v (.str z)) (.v (.int i)) P
theorem IxS.op {K : PySem.W.Frag} {ra rb : Rs} {P : D → Prop} (h : IxS δ ra rb P) : Op2 K f δ (rIx K) ra rb P := by
  cases h with
  | seq h1 h2 h3 h4 p => exact op2_ix h1 h2 h3 h4 p
  | str h1 h2 p => exact op2_ixS h1 h2 p
/-! ### tests -/
theorem dt_val (h : DE X f δ e fun r δ1 => ∃ b, r = .v (.bl b) ∧ Θ b δ1) (he : ∀ whole, isTrue e X.env whole = (do let v ← whole; standAt e.pos; holding [v] (truthy v)) := by intro _; rfl) : DT X f δ e Θ :=
  DT.of (pt_val h.h he) fun σ H Q ⟨T, R, q⟩ => ⟨T, R, fun r δ' v H' ⟨b, e, k⟩ R' => by
    subst e
    cases R'.vbl (v := v) (i := b) (by simp)
    exact ⟨b, rfl, q b δ' H' k R'.tail⟩⟩
theorem dt_not (h : DT X f δ a fun b δ1 => Θ (!b) δ1) : DT X f δ (.UnaryOp .Not a pos) Θ :=
  DT.of (pt_not h.h) fun σ H Q ⟨T, R, q⟩ => ⟨T, R, fun b δ' H' k R' => q (!b) δ' H' k R'⟩
theorem dt_pw (h : DW X f δ e Θ) : DT X f δ e Θ := ⟨PW.pt h.h⟩
theorem dw_and1 (h : DT X f δ a Θ) : DW X f δ (.BoolOp .And [a] pos) Θ := ⟨pw_and1 h.h⟩
theorem dw_or1 (h : DT X f δ a Θ) : DW X f δ (.BoolOp .Or [a] pos) Θ := ⟨pw_or1 h.h⟩
theorem dw_and (h : DT X f δ a fun c δ1 => (c = true → DW X f δ1 (.BoolOp .And (b :: rest) pos) Θ) ∧ (c = false → Θ false δ1)) : DW X f δ (.BoolOp .And (a :: b :: rest) pos) Θ :=
  DW.of (pw_and h.h (pw_u (f := f))) fun σ H Q ⟨T, R, q⟩ => ⟨T, R, fun c δ' H' k R' => by
    cases c with
    | true => exact ⟨δ', _, k.1 rfl, T, R', q⟩
    | false => exact q _ _ _ (k.2 rfl) R'⟩
theorem dw_or (h : DT X f δ a fun c δ1 => (c = false → DW X f δ1 (.BoolOp .Or (b :: rest) pos) Θ) ∧ (c = true → Θ true δ1)) : DW X f δ (.BoolOp .Or (a :: b :: rest) pos) Θ :=
  DW.of (pw_or h.h (pw_u (f := f))) fun σ H Q ⟨T, R, q⟩ => ⟨T, R, fun c δ' H' k R' => by
    cases c with
    | true => exact q _ _ _ (k.2 rfl) R'
    | false => exact ⟨δ', _, k.1 rfl, T, R', q⟩⟩
theorem de_if (h : DT X f δ c fun t δ1 => (t = true → DE X f δ1 a Ψ) ∧ (t = false → DE X f δ1 b Ψ)) : DE X f δ (.IfExp c a b pos) Ψ :=
  DE.of (pe_ifExp h.h (pe_u (f := f)) (pe_u (f := f))) fun σ H Q ⟨T, R, q⟩ => ⟨T, R, fun c δ' H' k R' => by
    cases c with
    | true => exact ⟨δ', _, k.1 rfl, T, R', q⟩
    | false => exact ⟨δ', _, k.2 rfl, T, R', q⟩⟩
/-! ### comparisons: one word for values and tests -/
def CmpOk (X : Cx) (f : Fm) (op : CmpOp) (S : Env → Rs → Rs → (Bool → Prop) → Prop) : Prop :=
  ∃ r, OpR X (compareOp op) r ∧ ∀ δ ra rb P, S δ ra rb P → Op2 X.K f δ r ra rb fun d => ∃ b, d = .bl b ∧ P b
theorem de_cmp {op : CmpOp} {S : Env → Rs → Rs → (Bool → Prop) → Prop} (c : CmpOk X f op S) (h : DE X f δ a fun ra δ1 => DE X f δ1 b fun rb δ2 => S δ2 ra rb fun t => Ψ (.v (.bl t)) δ2) (hm : behindInMarks op b = false) : DE X f δ (.Compare a [op] [b] pos) Ψ := by
  obtain ⟨r, ho, hs⟩ := c
  exact de_cmp2 ho (h.mono fun _ _ h => h.mono fun _ _ k => fun H σ T x y Q R q => hs _ _ _ _ k H σ T x y Q R fun d v H' ⟨t, e, p⟩ R' => by
    subst e
    exact q _ _ _ p R') hm
theorem dt_cmp {op : CmpOp} {S : Env → Rs → Rs → (Bool → Prop) → Prop} (c : CmpOk X f op S) (h : DE X f δ a fun ra δ1 => DE X f δ1 b fun rb δ2 => S δ2 ra rb fun t => Θ t δ2) (hm : behindInMarks op b = false) : DT X f δ (.Compare a [op] [b] pos) Θ := by
  obtain ⟨r, ho, hs⟩ := c
  exact DT.of (pt_cmpR ho h.h (pe_u (f := f)) hm) fun σ H Q ⟨T, R, q⟩ => ⟨T, R, fun ra δ1 x H1 hb R1 => ⟨δ1, _, hb, (x, ra) :: T, R1, fun rb δ2 y H2 k R2 => hs _ _ _ _ k H2 σ T x y _ R2 fun d v H' ⟨t, e, p⟩ R' => by
    subst e
    cases R'.vbl (v := v) (i := t) (by simp)
    exact ⟨t, rfl, q _ _ _ p R'.tail⟩⟩⟩
theorem cmp_I {op : CmpOp} {g : Int → Int → Bool} (ho : OpR X (compareOp op) (rI0 fun i j => .bl (g i j))) : CmpOk X f op fun _ ra rb P => I2 ra rb fun i j => P (g i j) :=
  ⟨_, ho, fun δ ra rb P h => by cases h with | mk k => exact op2_I0 (k := fun i j => .bl (g i j)) (fun _ _ => rfl) ⟨_, rfl, k⟩⟩
theorem cmp_lt : CmpOk X f .Lt fun _ ra rb P => I2 ra rb fun i j => P (decide (i < j)) := cmp_I op_lt
theorem cmp_le : CmpOk X f .LtE fun _ ra rb P => I2 ra rb fun i j => P (decide (i ≤ j)) := cmp_I op_le
theorem cmp_gt : CmpOk X f .Gt fun _ ra rb P => I2 ra rb fun i j => P (decide (j < i)) := cmp_I op_gt
theorem cmp_ge : CmpOk X f .GtE fun _ ra rb P => I2 ra rb fun i j => P (decide (j ≤ i)) := cmp_I op_ge
theorem cmp_eqL : CmpOk X f .Eq fun _ ra rb P => L2s ra rb fun va vb => scal va vb = true ∧ P (decide (va = vb)) :=
  ⟨_, op_eq, fun δ ra rb P h => by
    cases h with
    | mk la lb k =>
      intro H σ T x y Q R q
      cases R.vleaf (v := y) (by simp) lb
      cases R.vleaf (v := x) (by simp) la
      exact ⟨k.1, q (.bl _) _ _ ⟨_, rfl, k.2⟩ (R.tail2.pushL rfl)⟩⟩
theorem cmp_neL : CmpOk X f .NotEq fun _ ra rb P => L2s ra rb fun va vb => scal va vb = true ∧ P (!decide (va = vb)) :=
  ⟨_, op_ne, fun δ ra rb P h => by
    cases h with
    | mk la lb k =>
      intro H σ T x y Q R q
      cases R.vleaf (v := y) (by simp) lb
      cases R.vleaf (v := x) (by simp) la
      exact ⟨k.1, q (.bl _) _ _ ⟨_, rfl, k.2⟩ (R.tail2.pushL rfl)⟩⟩
/-- is None, is not None -/
inductive IsN (δ : Env) : Rs → Rs → (Bool → Prop) → Prop
  | yes {P : Bool → Prop} : P true → IsN δ (.v .non) (.v .non) P
  | no {r : Rs} {d : D} {P : Bool → Prop} : rsv δ r = some d → (∀ v, leaf d = some v → v ≠ .non) → (∀ v e, d ≠ .tg v e) → P false → IsN δ r (.v .non) P
theorem isN_ok {K : PySem.W.Frag} {ra rb : Rs} {P : Bool → Prop} {H : Hp} {σ : St} {T : List (V × Rs)} {x y : V} (h : IsN δ ra rb P) (R : Rp K f H σ δ ((y, rb) :: (x, ra) :: T)) : y = .non ∧ P (decide (x = .non)) := by
  cases h with
  | yes p =>
    cases R.vleaf (v := y) (w := .non) (d := .non) (by simp) rfl
    cases R.vleaf (v := x) (w := .non) (d := .non) (by simp) rfl
    exact ⟨rfl, p⟩
  | @no _ d _ hv hl ht p =>
    cases R.vleaf (v := y) (w := .non) (d := .non) (by simp) rfl
    obtain ⟨F, o⟩ := R.res (v := x) (r := ra) (by simp) hv
    refine ⟨rfl, ?_⟩
    have : x ≠ .non := by
      rcases o.inv with h | ⟨e, h1, _⟩ | ⟨a, vs, h1, _⟩
      · exact hl x h
      · exact absurd h1 (ht _ _)
      · rw [h1]; exact fun q => nomatch q
    rw [decide_eq_false this]
    exact p
theorem cmp_is : CmpOk X f .Is fun δ ra rb P => IsN δ ra rb P :=
  ⟨_, op_isN, fun δ ra rb P h H σ T x y Q R q => by
    obtain ⟨h1, h2⟩ := isN_ok h R
    exact ⟨h1, q (.bl _) _ _ ⟨_, rfl, h2⟩ (R.tail2.pushL rfl)⟩⟩
theorem cmp_isnot : CmpOk X f .IsNot fun δ ra rb P => IsN δ ra rb fun b => P (!b) :=
  ⟨_, op_notN, fun δ ra rb P h H σ T x y Q R q => by
    obtain ⟨h1, h2⟩ := isN_ok h R
    exact ⟨h1, q (.bl _) _ _ ⟨_, rfl, h2⟩ (R.tail2.pushL rfl)⟩⟩
theorem dt_lt (h : DE X f δ a fun ra δ1 => DE X f δ1 b fun rb δ2 => I2 ra rb fun i j => Θ (decide (i < j)) δ2) : DT X f δ (.Compare a [.Lt] [b] pos) Θ := dt_cmp cmp_lt h (nomark _)
theorem dt_le (h : DE X f δ a fun ra δ1 => DE X f δ1 b fun rb δ2 => I2 ra rb fun i j => Θ (decide (i ≤ j)) δ2) : DT X f δ (.Compare a [.LtE] [b] pos) Θ := dt_cmp cmp_le h (nomark _)
theorem dt_gt (h : DE X f δ a fun ra δ1 => DE X f δ1 b fun rb δ2 => I2 ra rb fun i j => Θ (decide (j < i)) δ2) : DT X f δ (.Compare a [.Gt] [b] pos) Θ := dt_cmp cmp_gt h (nomark _)
theorem de_gt (h : DE X f δ a fun ra δ1 => DE X f δ1 b fun rb δ2 => I2 ra rb fun i j => Ψ (.v (.bl (decide (j < i)))) δ2) : DE X f δ (.Compare a [.Gt] [b] pos) Ψ := de_cmp cmp_gt h (nomark _)
theorem dt_ge (h : DE X f δ a fun ra δ1 => DE X f δ1 b fun rb δ2 => I2 ra rb fun i j => Θ (decide (j ≤ i)) δ2) : DT X f δ (.Compare a [.GtE] [b] pos) Θ := dt_cmp cmp_ge h (nomark _)
theorem dt_is (h : DE X f δ a fun ra δ1 => DE X f δ1 b fun rb δ2 => IsN δ2 ra rb fun t => Θ t δ2) : DT X f δ (.Compare a [.Is] [b] pos) Θ := dt_cmp cmp_is h (nomark _)
theorem de_is (h : DE X f δ a fun ra δ1 => DE X f δ1 b fun rb δ2 => IsN δ2 ra rb fun t => Ψ (.v (.bl t)) δ2) : DE X f δ (.Compare a [.Is] [b] pos) Ψ := de_cmp cmp_is h (nomark _)
theorem dt_isnot (h : DE X f δ a fun ra δ1 => DE X f δ1 b fun rb δ2 => IsN δ2 ra rb fun t => Θ (!t) δ2) : DT X f δ (.Compare a [.IsNot] [b] pos) Θ := dt_cmp cmp_isnot h (nomark _)
/-- a op b op' c of ints -/
inductive Ch : Rs → Rs → Rs → (Int → Int → Int → Prop) → Prop
  | mk {i j k : Int} {P : Int → Int → Int → Prop} : P i j k → Ch (.v (.int i)) (.v (.int j)) (.v (.int k)) P
theorem dt_chain {op op' : CmpOp} {g g' : Int → Int → Bool} (ho : OpR X (compareOp op) (rI0 fun i j => .bl (g i j))) (ho' : OpR X (compareOp op') (rI0 fun i j => .bl (g' i j)))
    (h : DE X f δ a fun ra δ1 => DE X f δ1 b fun rb δ2 => I2 ra rb fun i j => (g i j = true → DE X f δ2 c fun rc δ3 => ∃ k, rc = .v (.int k) ∧ Θ (g' j k) δ3) ∧ (g i j = false → Θ false δ2)) (hm : lastMarks [op, op'] [b, c] = false := by with_unfolding_all rfl) :
    DT X f δ (.Compare a [op, op'] [b, c] pos) Θ :=
  DT.of (pt_chain ho ho' h.h (pe_u (f := f)) (pe_u (f := f)) hm) fun σ H Q ⟨T, R, q⟩ => ⟨T, R, fun ra δ1 x H1 hb R1 => ⟨δ1, _, hb, _, R1, fun rb δ2 y H2 k R2 => by
    cases k with
    | @mk i j _ k =>
      cases R2.vint (v := y) (i := j) (by simp)
      cases R2.vint (v := x) (i := i) (by simp)
      refine ⟨i, j, rfl, rfl, g i j, rfl, ?_⟩
      cases e : g i j with
      | true =>
        rw [if_pos rfl]
        refine ⟨δ2, _, k.1 e, T, R2.tail2, fun rc δ3 z H3 ⟨m, e3, k3⟩ R3 => ?_⟩
        subst e3
        cases R3.vint (v := z) (i := m) (by simp)
        exact ⟨j, m, rfl, rfl, _, rfl, q _ _ _ k3 R3.tail⟩
      | false =>
        rw [if_neg Bool.false_ne_true]
        exact ⟨_, rfl, q _ _ _ (k.2 e) R2.tail2⟩⟩⟩

theorem dt_lele (h : DE X f δ a fun ra δ1 => DE X f δ1 b fun rb δ2 => I2 ra rb fun i j => (decide (i ≤ j) = true → DE X f δ2 c fun rc δ3 => ∃ k, rc = .v (.int k) ∧ Θ (decide (j ≤ k)) δ3) ∧ (decide (i ≤ j) = false → Θ false δ2)) (hm : lastMarks [.LtE, .LtE] [b, c] = false := by with_unfolding_all rfl) : DT X f δ (.Compare a [.LtE, .LtE] [b, c] pos) Θ := dt_chain op_le op_le h hm
theorem dt_lelt (h : DE X f δ a fun ra δ1 => DE X f δ1 b fun rb δ2 => I2 ra rb fun i j => (decide (i ≤ j) = true → DE X f δ2 c fun rc δ3 => ∃ k, rc = .v (.int k) ∧ Θ (decide (j < k)) δ3) ∧ (decide (i ≤ j) = false → Θ false δ2)) (hm : lastMarks [.LtE, .Lt] [b, c] = false := by with_unfolding_all rfl) : DT X f δ (.Compare a [.LtE, .Lt] [b, c] pos) Θ := dt_chain op_le op_lt h hm
/-! ### statements -/
inductive Take (δ : Env) : Rs → D → Env → Prop
  | v {d : D} : Take δ (.v d) d δ
  | s {i : Nat} {d : D} : δ[i]? = some (some d) → Take δ (.s i) d (δ.set i none)
  | p {w : V} {i : Nat} {π : List Nat} {d : D} : getP δ i π = some (.tg w d) → Take δ (.p w i π) d (setP δ i π (.opq w))
  | pa {w : V} {i : Nat} {π : List Nat} : Take δ (.p w i π) (.opq w) δ
theorem db_nil (k : Φ.nx δ) : DB X f δ [] Φ := DB.of pss_nil fun E σ H ⟨T, R, n, _⟩ => n δ σ H k R
theorem db_cons (h : DS X f δ st { Φ with nx := fun δ1 => DB X f δ1 sts Φ }) : DB X f δ (st :: sts) Φ :=
  DB.of (pss_cons h.h (pb_u (f := f))) fun E σ H ⟨T, R, n, r, b, c⟩ => ⟨T, R, fun δ' σ' H' k R' => ⟨δ', Φ, k, T, R', n, r, b, c⟩, r, b, c⟩
end
end Dl

namespace Dl
open PySem L2

section
variable {K : PySem.W.Frag} {f : Fm} {H H' : Hp} {σ : St} {δ δ' δ1 : Env} {T T' : List (V × Rs)} {v w : V} {d e : D} {i j : Nat} {r : Rs} {p a : Addr} {o : HO} {F F1 F2 : Fp}
theorem Rp.perm (R : Rp K f H σ δ T) (p : T.Perm T') : Rp K f H σ δ T' := by
  obtain ⟨F, s, k⟩ := R.own
  exact ⟨R.len, R.has, ⟨F, s.perm ((p.map tc).append_right _), k⟩, fun c m => R.tmp c (p.mem_iff.mpr m), R.fr, R.tx, R.pin⟩
theorem Rp.forget (R : Rp K f H σ δ T) : Rp K f H σ (δ.set i none) T := by
  obtain ⟨F, s, k⟩ := R.own
  refine ⟨by simp [R.len], fun j e h => ?_, ⟨F, ?_, k⟩, R.tmp, R.fr, R.tx, R.pin⟩
  · by_cases q : j = i
    · subst q
      by_cases hj : j < δ.length
      · rw [List.getElem?_set_self hj] at h; cases h
      · rw [List.getElem?_eq_none (by simp; omega)] at h; cases h
    · rw [List.getElem?_set_ne (Ne.symm q)] at h
      exact R.has j e h
  · have g : Sep (OwnE K H) ((V.non, D.non) :: (T.map tc ++ cells σ δ)) F := s.free .non
    have g2 := g.put (i := (T.map tc).length + i)
    rw [List.set_append_right _ _ (Nat.le_add_right _ _), Nat.add_sub_cancel_left] at g2
    by_cases hi : i < σ.length
    · have e := cells_set (σ := σ) (δ := δ) (i := i) (x := σ[i]) (y := none)
      rw [List.set_getElem_self] at e
      rw [e]
      have e2 : cl σ[i] none = (.non, .non) := by cases σ[i] <;> rfl
      rw [e2]
      exact g2
    · have e : δ.set i none = δ := List.set_eq_of_length_le (by rw [← R.len]; omega)
      rw [e]
      exact s
theorem Take.rp (t : Take δ r d δ') (R : Rp K f H σ δ ((v, r) :: T)) : Rp K f H σ δ' ((v, .v d) :: T) := by
  cases t with
  | v => exact R
  | @pa u i π =>
    refine R.cellsTo (fun F s => s) fun c m j e => ?_
    rcases List.mem_cons.mp m with rfl | m
    · cases e
    · exact List.mem_cons_of_mem _ m
  | @s i _ h =>
    have e := R.tmp _ List.mem_cons_self i rfl
    obtain ⟨w, e2, R2⟩ := R.tail.out h
    rw [e] at e2
    cases e2
    have R3 := R2.forget (i := i)
    rw [List.set_set] at R3
    exact R3
  | @p u i π _ h =>
    have ev : v = u := by
      obtain ⟨F, s, _⟩ := R.own
      obtain ⟨F1, F2, h1, _⟩ := s
      exact h1.of_opq
    obtain ⟨w, R2⟩ := R.tail.outP h
    have ew : w = u := by
      obtain ⟨F, s, _⟩ := R2.own
      obtain ⟨F1, F2, h1, _⟩ := s
      exact h1.of_tg.1
    subst ev
    subst ew
    exact R2.tell fun F o => o.of_tg.2
/-- footprints without what is not tracked -/
theorem Own.trim : ∀ {n : Nat} {v : V} {d : D} {F : Fp}, Own K H n v d F → Own K H n v d fun x => F x ∧ H x ≠ none
  | 0, _, _, _, h => h
  | n + 1, v, d, F, r => by
    rcases r with r | ⟨e, h1, h2⟩ | ⟨a, vs, h1, h2, h3, F2, h4, h5, h6⟩
    · exact .inl r
    · exact .inr (.inl ⟨e, h1, Own.trim h2⟩)
    · have na : isMut d = true → H a ≠ none := by
        intro hm q
        cases d with
        | lst _ => exact nomatch (show H a = some _ from h2).symm.trans q
        | dK _ => exact nomatch (show H a = some _ from h2).symm.trans q
        | dT _ => exact nomatch (show H a = some _ from h2).symm.trans q
        | lkK _ => exact h2.elim fun o h => nomatch h.symm.trans q
        | lkT _ _ _ => exact nomatch h2.1.symm.trans q
        | obj _ _ => exact h2.elim fun o h => nomatch h.symm.trans q
        | _ => cases hm
      refine .inr (.inr ⟨a, vs, h1, h2, h3, fun x => F2 x ∧ H x ≠ none, ?_, fun x q => ⟨h5 x q.1, q.2⟩, fun hm => ⟨⟨(h6 hm).1, na hm⟩, fun q => (h6 hm).2 q.1⟩⟩)
      have sm : ∀ {cs : List (V × D)} {F : Fp}, Sep (Own K H n) cs F → Sep (Own K H n) cs (fun x => F x ∧ H x ≠ none) := by
        intro cs
        induction cs with
        | nil => exact fun _ => trivial
        | cons c cs ihc =>
          intro F ⟨G1, G2, g1, g2, g3, g4, g5⟩
          exact ⟨_, _, Own.trim g1, ihc g2, fun x q z => g3 x q.1 z.1, fun x q => ⟨g4 x q.1, q.2⟩, fun x q => ⟨g5 x q.1, q.2⟩⟩
      exact sm h4
theorem Sep.trim : ∀ {cs : List (V × D)} {F : Fp}, Sep (OwnE K H) cs F → Sep (OwnE K H) cs fun x => F x ∧ H x ≠ none
  | [], _, _ => trivial
  | (_, _) :: _, _, ⟨_, _, ⟨n, g1⟩, g2, g3, g4, g5⟩ => ⟨_, _, ⟨n, g1.trim⟩, Sep.trim g2, fun x q z => g3 x q.1 z.1, fun x q => ⟨g4 x q.1, q.2⟩, fun x q => ⟨g5 x q.1, q.2⟩⟩
theorem Rp.free0 (R : Rp K f H σ δ T) {x : Addr} (h : H x = none) : f.F0 x ∨ f.H0 x = none := R.fr.none0 h
/-- the kinds of what may be owned -/
def OwnK : Option HO → Prop
  | some (.lst _) => True
  | some (.dK _) => True
  | some (.dT _) => True
  | some (.frz _ _) => True
  | some (.ins _ _ _) => True
  | _ => False
theorem Own.trimK : ∀ {n : Nat} {v : V} {d : D} {F : Fp}, Own K H n v d F → Own K H n v d fun x => F x ∧ OwnK (H x)
  | 0, _, _, _, h => h
  | n + 1, v, d, F, r => by
    rcases r with r | ⟨e, h1, h2⟩ | ⟨a, vs, h1, h2, h3, F2, h4, h5, h6⟩
    · exact .inl r
    · exact .inr (.inl ⟨e, h1, Own.trimK h2⟩)
    · have na : isMut d = true → OwnK (H a) := by
        intro hm
        cases d with
        | lst _ => rw [show H a = some _ from h2]; trivial
        | dK _ => rw [show H a = some _ from h2]; trivial
        | dT _ => rw [show H a = some _ from h2]; trivial
        | lkK _ => obtain ⟨o, h⟩ := h2; rw [h]; trivial
        | lkT _ _ _ => rw [h2.1]; trivial
        | obj _ _ => obtain ⟨o, h⟩ := h2; rw [h]; trivial
        | _ => cases hm
      refine .inr (.inr ⟨a, vs, h1, h2, h3, fun x => F2 x ∧ OwnK (H x), ?_, fun x q => ⟨h5 x q.1, q.2⟩, fun hm => ⟨⟨(h6 hm).1, na hm⟩, fun q => (h6 hm).2 q.1⟩⟩)
      have sm : ∀ {cs : List (V × D)} {F : Fp}, Sep (Own K H n) cs F → Sep (Own K H n) cs (fun x => F x ∧ OwnK (H x)) := by
        intro cs
        induction cs with
        | nil => exact fun _ => trivial
        | cons c cs ihc =>
          intro F ⟨G1, G2, g1, g2, g3, g4, g5⟩
          exact ⟨_, _, Own.trimK g1, ihc g2, fun x q z => g3 x q.1 z.1, fun x q => ⟨g4 x q.1, q.2⟩, fun x q => ⟨g5 x q.1, q.2⟩⟩
      exact sm h4
theorem Sep.trimK : ∀ {cs : List (V × D)} {F : Fp}, Sep (OwnE K H) cs F → Sep (OwnE K H) cs fun x => F x ∧ OwnK (H x)
  | [], _, _ => trivial
  | (_, _) :: _, _, ⟨_, _, ⟨n, g1⟩, g2, g3, g4, g5⟩ => ⟨_, _, ⟨n, g1.trimK⟩, Sep.trimK g2, fun x q z => g3 x q.1 z.1, fun x q => ⟨g4 x q.1, q.2⟩, fun x q => ⟨g5 x q.1, q.2⟩⟩

/-! ### arguments that stand in slots: taken out, put back -/
def rsvs (δ : Env) : List Rs → Option (List D)
  | [] => some []
  | r :: rs => match rsv δ r, rsvs δ rs with
    | some d, some ds => some (d :: ds)
    | _, _ => none
def slots : List Rs → List Nat
  | [] => []
  | .v _ :: rs => slots rs
  | .s i :: rs => i :: slots rs
  | .p _ i _ :: rs => i :: slots rs
/-- a result's place stored anew -/
def setR (δ : Env) : Rs → D → Env
  | .v _, _ => δ
  | .s i, e => δ.set i (some e)
  | .p _ i π, e => setP δ i π e
def backs : List Rs → List D → Env → Env
  | r :: rs, d :: ds, δ => backs rs ds (setR δ r d)
  | _, _, δ => δ
def holes : List Rs → List V → Env → Env
  | r :: rs, v :: vs, δ => holes rs vs (setR δ r (.opq v))
  | _, _, δ => δ
theorem dSet_dSet {x y : D} : ∀ {π : List Nat} {d : D}, dSet (dSet d π x) π y = dSet d π y
  | [], d => rfl
  | k :: π, d => by
    cases q : (kids (unT d))[k]? with
    | none => rw [dSet_none q, dSet_none q]
    | some c =>
      have hk : (kids (unT (setK d k (dSet c π x))))[k]? = some (dSet c π x) := by
        rw [kids_setK, List.getElem?_set_self (List.getElem?_eq_some_iff.mp q).1]
      rw [dSet_some q, dSet_some q, dSet_some hk, setK_setK, dSet_dSet]
theorem join_set {i : Nat} {d : D} (h : i < δ.length) : (δ.set i (some d))[i]?.join = some d := by
  rw [List.getElem?_set_self h]; rfl
theorem join_ne {i j : Nat} {y : Option D} (h : j ≠ i) : (δ.set j y)[i]?.join = δ[i]?.join := by
  rw [List.getElem?_set_ne h]
theorem setP_setP {i : Nat} {π : List Nat} {x y : D} : setP (setP δ i π x) i π y = setP δ i π y := by
  unfold setP
  cases q : δ[i]?.join with
  | none => simp only [q]
  | some d =>
    have hi := (List.getElem?_eq_some_iff.mp (get_join q)).1
    simp only
    rw [join_set hi]
    simp only
    rw [List.set_set, dSet_dSet]
theorem setP_set {i j : Nat} {π : List Nat} {x : D} {y : Option D} (h : j ≠ i) : setP (δ.set j y) i π x = (setP δ i π x).set j y := by
  unfold setP
  rw [join_ne h]
  cases q : δ[i]?.join with
  | none => rfl
  | some d => exact List.set_comm _ _ h
theorem setP_get {i j : Nat} {π : List Nat} {x : D} (h : j ≠ i) : (setP δ i π x)[j]? = δ[j]? := by
  unfold setP
  cases q : δ[i]?.join with
  | none => rfl
  | some d => exact List.getElem?_set_ne h.symm
theorem setP_comm {i j : Nat} {π ρ : List Nat} {x y : D} (h : j ≠ i) : setP (setP δ j ρ y) i π x = setP (setP δ i π x) j ρ y := by
  cases q : δ[j]?.join with
  | none =>
    have e : ∀ {δ' : Env}, δ'[j]?.join = none → setP δ' j ρ y = δ' := fun h => by unfold setP; rw [h]
    rw [e q, e]
    rw [setP_get h, q]
  | some d =>
    have e : ∀ {δ' : Env}, δ'[j]?.join = some d → setP δ' j ρ y = δ'.set j (some (dSet d ρ y)) := fun h => by unfold setP; rw [h]
    rw [e q, e (by rw [setP_get h, q]), setP_set h]
theorem setR_setR {r : Rs} {x y : D} : setR (setR δ r x) r y = setR δ r y := by
  cases r with
  | v _ => rfl
  | s i => show (δ.set i (some x)).set i (some y) = δ.set i (some y); rw [List.set_set]
  | p w i π => exact setP_setP
theorem setR_comm {r q : Rs} {x y : D} (h : ∀ i ∈ slots [r], i ∉ slots [q]) : setR (setR δ r x) q y = setR (setR δ q y) r x := by
  have hn : ∀ {i j : Nat}, slots [r] = [i] → slots [q] = [j] → i ≠ j := by
    intro i j h1 h2 e
    subst e
    exact h i (by rw [h1]; simp) (by rw [h2]; simp)
  cases r with
  | v _ => rfl
  | s i =>
    cases q with
    | v _ => rfl
    | s j => exact List.set_comm _ _ (hn rfl rfl)
    | p w j π => exact setP_set (hn rfl rfl)
  | p u i ρ =>
    cases q with
    | v _ => rfl
    | s j => exact (setP_set (hn rfl rfl).symm).symm
    | p w j π => exact setP_comm (hn rfl rfl)
theorem slots_cons {r : Rs} {rs : List Rs} : slots (r :: rs) = slots [r] ++ slots rs := by cases r <;> rfl
theorem rsv_setR {r q : Rs} {x : D} (h : ∀ i ∈ slots [r], i ∉ slots [q]) : rsv (setR δ r x) q = rsv δ q := by
  have hn : ∀ {i j : Nat}, slots [r] = [i] → slots [q] = [j] → i ≠ j := by
    intro i j h1 h2 e
    subst e
    exact h i (by rw [h1]; simp) (by rw [h2]; simp)
  have hg : ∀ {j : Nat}, slots [q] = [j] → (setR δ r x)[j]? = δ[j]? := fun {j} h2 => by
    cases r with
    | v _ => rfl
    | s i => exact List.getElem?_set_ne (hn rfl h2)
    | p u i ρ => exact setP_get (hn rfl h2).symm
  cases q with
  | v _ => rfl
  | s j => show (setR δ r x)[j]?.join = _; rw [hg rfl]; rfl
  | p w j π => show tagged w (getP (setR δ r x) j π) = tagged w (getP δ j π); unfold getP; rw [hg rfl]
theorem rsvs_setR {r : Rs} {x : D} : ∀ {rs : List Rs}, (∀ i ∈ slots [r], i ∉ slots rs) → rsvs (setR δ r x) rs = rsvs δ rs
  | [], _ => rfl
  | q :: rs, h => by
    rw [slots_cons (r := q)] at h
    unfold rsvs
    rw [rsv_setR fun i m z => h i m (List.mem_append_left _ z), rsvs_setR fun i m z => h i m (List.mem_append_right _ z)]
theorem holes_setR {r : Rs} {x : D} : ∀ {rs : List Rs} {vs : List V} {δ : Env}, (∀ i ∈ slots [r], i ∉ slots rs) → holes rs vs (setR δ r x) = setR (holes rs vs δ) r x
  | [], _, _, _ => rfl
  | _ :: _, [], _, _ => rfl
  | q :: rs, v :: vs, δ, h => by
    rw [slots_cons (r := q)] at h
    show holes rs vs (setR (setR δ r x) q (.opq v)) = setR (holes rs vs (setR δ q (.opq v))) r x
    rw [setR_comm fun i m z => h i m (List.mem_append_left _ z)]
    exact holes_setR fun i m z => h i m (List.mem_append_right _ z)
theorem backs_holes : ∀ {rs : List Rs} {vs : List V} {ds : List D} {δ : Env}, ds.length = rs.length → (slots rs).Nodup → backs rs ds (holes rs vs δ) = backs rs ds δ
  | [], vs, _, _, _, _ => by cases vs <;> rfl
  | _ :: _, [], _, _, _, _ => rfl
  | _ :: _, _ :: _, [], _, hl, _ => nomatch hl
  | r :: rs, v :: vs, d :: ds, δ, hl, h => by
    rw [slots_cons] at h
    have h1 : ∀ i ∈ slots [r], i ∉ slots rs := fun i m z => (List.nodup_append.mp h).2.2 i m i z rfl
    show backs rs ds (setR (holes rs vs (setR δ r (.opq v))) r d) = backs rs ds (setR δ r d)
    rw [← holes_setR h1, setR_setR]
    exact backs_holes (by simpa using hl) (List.nodup_append.mp h).2.1
theorem rsvs_len : ∀ {rs : List Rs} {ds : List D}, rsvs δ rs = some ds → rs.length = ds.length
  | [], _, h => by cases h; rfl
  | r :: rs, ds, h => by
    unfold rsvs at h
    cases e1 : rsv δ r with
    | none => rw [e1] at h; cases h
    | some d =>
      cases e2 : rsvs δ rs with
      | none => rw [e1, e2] at h; cases h
      | some ds' =>
        rw [e1, e2] at h
        cases h
        simp [rsvs_len e2]
/-- a result's data taken out of its place -/
theorem Rp.outR {c : D} (R : Rp K f H σ δ ((v, r) :: T)) (h : rsv δ r = some c) : Rp K f H σ (setR δ r (.opq v)) ((v, .v c) :: T) := by
  cases r with
  | v x => cases h; exact R
  | s j =>
    have ev := R.tmp _ List.mem_cons_self j rfl
    obtain ⟨w, ew, R1⟩ := R.tail.out (get_join h)
    rw [ev] at ew
    cases ew
    exact R1
  | p u j π =>
    have ev : v = u := by
      obtain ⟨F, s, _⟩ := R.own
      obtain ⟨F1, F2, h1, _⟩ := s
      exact h1.of_opq
    obtain ⟨w, R2⟩ := R.tail.outP (rsv_of h)
    have ew : w = u := by
      obtain ⟨F, s, _⟩ := R2.own
      obtain ⟨F1, F2, h1, _⟩ := s
      exact h1.of_tg.1
    subst ev
    subst ew
    exact R2.tell fun F o => o.of_tg.2
/-- where a result's place is -/
def Plc (σ : St) (δ : Env) (v : V) : Rs → Prop
  | .v _ => True
  | .s j => σ[j]? = some (some v)
  | .p _ j π => ∃ c, getP δ j π = some c
theorem getP_setP {i : Nat} {π : List Nat} {c x : D} (h : getP δ i π = some c) : getP (setP δ i π x) i π = some x := by
  unfold getP at h
  unfold getP setP
  cases q : δ[i]?.join with
  | none => rw [q] at h; cases h
  | some d =>
    rw [q] at h
    have hi := (List.getElem?_eq_some_iff.mp (get_join q)).1
    simp only
    rw [join_set hi]
    simp only
    have main : ∀ (π : List Nat) (d c : D), dAt d π = some c → dAt (dSet d π x) π = some x := by
      intro π
      induction π with
      | nil => intro d c h; rfl
      | cons k π ih =>
        intro d c h
        cases q : (kids (unT d))[k]? with
        | none => unfold dAt at h; rw [q] at h; cases h
        | some c1 =>
          rw [dAt_some q] at h
          have hk : (kids (unT (setK d k (dSet c1 π x))))[k]? = some (dSet c1 π x) := by
            rw [kids_setK, List.getElem?_set_self (List.getElem?_eq_some_iff.mp q).1]
          rw [dSet_some q, dAt_some hk]
          exact ih c1 c h
    exact main π d c h
theorem Plc.of (R : Rp K f H σ δ ((v, r) :: T)) {c : D} (h : rsv δ r = some c) : Plc σ (setR δ r (.opq v)) v r := by
  cases r with
  | v x => trivial
  | s j => exact R.tmp _ List.mem_cons_self j rfl
  | p u j π => exact ⟨_, getP_setP (rsv_of h)⟩
theorem Plc.set {q : Rs} {x : D} (h : Plc σ δ v r) (n : ∀ i ∈ slots [q], i ∉ slots [r]) : Plc σ (setR δ q x) v r := by
  cases r with
  | v _ => trivial
  | s j => exact h
  | p u j π =>
    obtain ⟨c, h⟩ := h
    refine ⟨c, ?_⟩
    have hg : (setR δ q x)[j]? = δ[j]? := by
      cases q with
      | v _ => rfl
      | s i => exact List.getElem?_set_ne fun e => n i (by simp [slots]) (by simp [slots, e])
      | p w i ρ => exact setP_get fun e => n i (by simp [slots]) (by simp [slots, e])
    unfold getP
    rw [hg]
    exact h
/-- .. put back -/
theorem Rp.backR {c : D} (R : Rp K f H σ (setR δ r (.opq v)) ((v, .v c) :: T)) (h : Plc σ (setR δ r (.opq v)) v r) : Rp K f H σ (setR δ r c) T := by
  cases r with
  | v x => exact R.tail
  | s j =>
    have R1 := R.back (i := j) h
    have R2 : Rp K f H σ ((δ.set j (some (.opq v))).set j (some c)) T := R1
    rw [List.set_set] at R2
    exact R2
  | p u j π =>
    obtain ⟨c', h⟩ := h
    have R1 : Rp K f H σ (setP (setP δ j π (.opq v)) j π (.opq v)) ((v, .v c) :: T) := by rw [setP_setP]; exact R
    have R2 : Rp K f H σ (setP (setP δ j π (.opq v)) j π c) T := Rp.backP h R1
    rw [setP_setP] at R2
    exact R2
theorem Rp.outs : ∀ {rs : List Rs} {vs : List V} {ds : List D} {δ : Env} {T : List (V × Rs)}, Rp K f H σ δ (vs.zip rs ++ T) → vs.length = rs.length → rsvs δ rs = some ds → (slots rs).Nodup →
    Rp K f H σ (holes rs vs δ) (vs.zip (ds.map Rs.v) ++ T) ∧ ∀ v r, (v, r) ∈ vs.zip rs → Plc σ (holes rs vs δ) v r
  | [], [], ds, δ, T, R, _, h, _ => by cases h; exact ⟨R, fun _ _ m => nomatch m⟩
  | r :: rs, v :: vs, ds, δ, T, R, hl, h, hn => by
    unfold rsvs at h
    cases e1 : rsv δ r with
    | none => rw [e1] at h; cases h
    | some d =>
      cases e2 : rsvs δ rs with
      | none => rw [e1, e2] at h; cases h
      | some ds' =>
        rw [e1, e2] at h
        cases h
        rw [slots_cons] at hn
        have h1 : ∀ i ∈ slots [r], i ∉ slots rs := fun i m z => (List.nodup_append.mp hn).2.2 i m i z rfl
        have R0 : Rp K f H σ δ ((v, r) :: (vs.zip rs ++ T)) := R
        have hl' : vs.length = rs.length := by simpa using hl
        have R1 : Rp K f H σ (setR δ r (.opq v)) (vs.zip rs ++ (v, Rs.v d) :: T) := (R0.outR e1).perm List.perm_middle.symm
        obtain ⟨R2, pl⟩ := Rp.outs R1 hl' ((rsvs_setR h1).trans e2) (List.nodup_append.mp hn).2.1
        refine ⟨R2.perm List.perm_middle, fun u q m => ?_⟩
        show Plc σ (holes rs vs (setR δ r (.opq v))) u q
        rcases List.mem_cons.mp m with m | m
        · cases m
          rw [holes_setR h1]
          have p0 := Plc.of R0 e1
          cases r with
          | v _ => trivial
          | s j => exact p0
          | p w j π =>
            obtain ⟨c, p0⟩ := p0
            have : ∀ {rs : List Rs} {vs : List V} {δ : Env}, j ∉ slots rs → (holes rs vs δ)[j]? = δ[j]? := by
              intro rs
              induction rs with
              | nil => intro vs δ _; cases vs <;> rfl
              | cons q rs ih =>
                intro vs δ hj
                cases vs with
                | nil => rfl
                | cons v vs =>
                  rw [slots_cons] at hj
                  show (holes rs vs (setR δ q (.opq v)))[j]? = _
                  rw [ih fun z => hj (List.mem_append_right _ z)]
                  cases q with
                  | v _ => rfl
                  | s i => exact List.getElem?_set_ne fun e => hj (by simp [slots, e])
                  | p w i ρ => exact setP_get fun e => hj (by simp [slots, e])
            have hj0 := this (rs := rs) (vs := vs) (δ := δ) (h1 j (by simp [slots]))
            have hg := rsv_of e1
            exact ⟨.opq v, getP_setP (c := .tg w d) (by unfold getP at hg ⊢; rw [hj0]; exact hg)⟩
        · exact pl u q m
  | [], _ :: _, _, _, _, _, hl, _, _ => nomatch hl
  | _ :: _, [], _, _, _, _, hl, _, _ => nomatch hl
theorem Rp.ins : ∀ {rs : List Rs} {vs : List V} {ds : List D} {δ : Env} {T : List (V × Rs)}, Rp K f H σ (holes rs vs δ) (vs.zip (ds.map Rs.v) ++ T) → vs.length = rs.length → ds.length = rs.length → (slots rs).Nodup → (∀ v r, (v, r) ∈ vs.zip rs → Plc σ (holes rs vs δ) v r) →
    Rp K f H σ (backs rs ds δ) T
  | [], [], [], δ, T, R, _, _, _, _ => R
  | r :: rs, v :: vs, d :: ds, δ, T, R, hl, hd, hn, ht => by
    rw [slots_cons] at hn
    have h1 : ∀ i ∈ slots [r], i ∉ slots rs := fun i m z => (List.nodup_append.mp hn).2.2 i m i z rfl
    have R0 : Rp K f H σ (holes rs vs (setR δ r (.opq v))) ((v, .v d) :: (vs.zip (ds.map Rs.v) ++ T)) := R
    have hl' : vs.length = rs.length := by simpa using hl
    have hd' : ds.length = rs.length := by simpa using hd
    have p0 : Plc σ (holes rs vs (setR δ r (.opq v))) v r := ht v r List.mem_cons_self
    rw [holes_setR h1] at R0 p0
    have R1 := Rp.backR R0 p0
    rw [← holes_setR h1] at R1
    refine Rp.ins (rs := rs) (vs := vs) (ds := ds) (δ := setR δ r d) R1 hl' hd' (List.nodup_append.mp hn).2.1 fun u q m => ?_
    have p1 : Plc σ (holes rs vs (setR δ r (.opq v))) u q := ht u q (List.mem_cons_of_mem _ m)
    rw [holes_setR h1] at p1 ⊢
    have hq : ∀ i ∈ slots [q], i ∈ slots rs := by
      have m2 := (List.of_mem_zip m).2
      clear ht p0 R0 R1 p1 h1 hn m hd hd' hl hl' R
      induction rs with
      | nil => cases m2
      | cons a rs ih =>
        intro i hi
        rw [slots_cons]
        rcases List.mem_cons.mp m2 with rfl | m2
        · exact List.mem_append_left _ hi
        · exact List.mem_append_right _ (ih m2 i hi)
    have p2 := p1.set (q := r) (x := d) fun i m z => h1 i m (hq i z)
    rw [setR_setR] at p2
    exact p2
  | [], _ :: _, _, _, _, _, hl, _, _, _ => nomatch hl
  | _ :: _, [], _, _, _, _, hl, _, _, _ => nomatch hl
  | [], [], _ :: _, _, _, _, _, hd, _, _ => nomatch hd
  | _ :: _, _ :: _, [], _, _, _, _, hd, _, _ => nomatch hd
end

/-! ### promises of defs -/
abbrev Pre := List D → (D → List D → Prop) → Prop
/-- how the heap lies behind a call that was handed what lies in F -/
structure Post (K : PySem.W.Frag) (H : Hp) (F : Fp) (vs : List V) (ds' : List D) (v : V) (r : D) (H' : Hp) : Prop where
  len : ds'.length = vs.length
  own : ∃ F', Sep (OwnE K H') ((v, r) :: vs.zip ds') F' ∧ ∀ x, F' x → F x ∨ H x = none
  fr : ∀ a u, H a = some u → ¬ F a → H' a = some u
  tx : Tx H H'
def spD (K : PySem.W.Frag) (n : Nat) (P : Pre) : Sp := fun vs H Q _ => ∃ ds F, vs.length = n ∧ ds.length = n ∧ Sep (OwnE K H) (vs.zip ds) F ∧ ∃ Φ, P ds Φ ∧ ∀ r ds' v H', Φ r ds' → Post K H F vs ds' v r H' → Q v H'
theorem spD_len {K : PySem.W.Frag} {n : Nat} {P : Pre} : ∀ vs H Q E, spD K n P vs H Q E → vs.length = n := fun _ _ _ _ ⟨_, _, h, _⟩ => h
/-- a def of the module keeps its promise -/
structure GFn (P : Program) (w : World) (K : PySem.W.Frag) (mg : Str → Option Value) (base : Heap) (k : Nat) (x : Str) (n : Nat) (pre : Pre) : Prop where
  ex : ∃ (f : Addr) (fd : FuncData) (ps : List Str), mg x = some (.ref f) ∧ PySem.W.keepIn K (.ref f) = true ∧ Binds K fd ps [] ∧ FnOk P w K mg base CX0 k f fd ps (spD K n pre)
theorem GFn.mono {P : Program} {w : World} {K : PySem.W.Frag} {mg : Str → Option Value} {base : Heap} {j k : Nat} {x : Str} {n : Nat} {pre : Pre} (G : GFn P w K mg base j x n pre) (h : j ≤ k) : GFn P w K mg base k x n pre := by
  obtain ⟨f, fd, ps, h1, h2, h3, h4⟩ := G.ex
  exact ⟨f, fd, ps, h1, h2, h3, h4.mono h⟩

section
variable {K : PySem.W.Frag} {f : Fm} {H H' : Hp} {σ : St} {δ δ' δ1 : Env} {T T' : List (V × Rs)} {v w : V} {d e : D} {i j : Nat} {r : Rs} {p a : Addr} {o : HO} {F F1 F2 : Fp}
/-- a call by a promise -/
theorem Rp.called0 {rs : List Rs} {vs : List V} {ds : List D} {n : Nat} {P : Pre} {Φ : D → List D → Prop} {Q : VK} {E : XK} (R : Rp K f H σ δ (vs.zip rs ++ T)) (hl : vs.length = rs.length) (hn : rs.length = n) (h : rsvs δ rs = some ds) (nd : (slots rs).Nodup) (p : P ds Φ)
    (q : ∀ r ds' v H', Φ r ds' → ds'.length = vs.length → Rp K f H' σ (holes rs vs δ) (vs.zip (ds'.map Rs.v) ++ (v, .v r) :: T) → Q v H') : spD K n P vs H Q E := by
  obtain ⟨R1, pl⟩ := Rp.outs R hl h nd
  obtain ⟨F, s0, k0⟩ := R1.own
  have s := s0.trimK
  have k : ∀ x, (F x ∧ OwnK (H x)) → f.F0 x ∨ f.H0 x = none := fun x q => k0 x q.1
  rw [List.map_append, List.append_assoc] at s
  obtain ⟨F1, F2, s1, s2, dj, k1, k2⟩ := s.split
  have hds := rsvs_len h
  have em : ∀ (vs : List V) (ds : List D), (vs.zip (ds.map Rs.v)).map tc = vs.zip ds := by
    intro vs
    induction vs with
    | nil => intro ds; rfl
    | cons v vs ih =>
      intro ds
      cases ds with
      | nil => rfl
      | cons d ds => show (v, d) :: (vs.zip (ds.map Rs.v)).map tc = (v, d) :: vs.zip ds; rw [ih]
  rw [em] at s1
  refine ⟨ds, F1, by omega, by omega, s1, Φ, p, fun r ds' v H' hp po => q r ds' v H' hp po.len ?_⟩
  obtain ⟨F', t1, t2⟩ := po.own
  have hl2 := po.len
  have s2' : Sep (OwnE K H') (T.map tc ++ cells σ (holes rs vs δ)) (fun x => F2 x ∧ H x ≠ none) := s2.trim.monoR fun v d G _ g r => r.frame po.tx fun x z => by
    obtain ⟨z1, z2⟩ := g x z
    cases e : H x with
    | none => exact absurd e z2
    | some u => exact po.fr x u e fun y => dj x y z1
  have fin : Rp K f H' σ (holes rs vs δ) ((v, .v r) :: (vs.zip (ds'.map Rs.v) ++ T)) := by
    refine ⟨R1.len, R1.has, ⟨fun x => F' x ∨ (F2 x ∧ H x ≠ none), ?_, fun x z => ?_⟩, fun c m j e => ?_, R1.fr.step fun a u h1 h2 => ?_, R1.tx.trans po.tx, R1.pin⟩
    · have := Sep.append t1 s2' fun x z y => by
        rcases t2 x z with t | t
        · exact dj x t y.1
        · exact y.2 t
      show Sep (OwnE K H') ((v, r) :: ((vs.zip (ds'.map Rs.v) ++ T).map tc ++ cells σ (holes rs vs δ))) _
      rw [List.map_append, em, List.append_assoc]
      exact this
    · rcases z with z | z
      · rcases t2 x z with t | t
        · exact k x (k1 x t)
        · exact R.free0 t
      · exact k x (k2 x z.1)
    · rcases List.mem_cons.mp m with m | m
      · rw [m] at e; cases e
      · rcases List.mem_append.mp m with m | m
        · obtain ⟨v1, r1⟩ := c
          have := (List.of_mem_zip m).2
          obtain ⟨x, _, ex⟩ := List.mem_map.mp this
          cases ex
          cases e
        · exact R1.tmp c (List.mem_append_right _ m) j e
    · exact po.fr a u h1 fun z => by
        rcases h2 with ⟨n1, n2⟩ | ⟨φ, e⟩
        · rcases k a (k1 a z) with y | y
          · exact n1 y
          · exact n2 y
        · have y := (k1 a z).2
          rw [h1, e] at y
          exact y
  exact fin.perm List.perm_middle.symm
theorem Rp.called {rs : List Rs} {vs : List V} {ds : List D} {n : Nat} {P : Pre} {Φ : D → List D → Prop} {Q : VK} {E : XK} (R : Rp K f H σ δ (vs.zip rs ++ T)) (hl : vs.length = rs.length) (hn : rs.length = n) (h : rsvs δ rs = some ds) (nd : (slots rs).Nodup) (p : P ds Φ)
    (q : ∀ r ds' v H', Φ r ds' → Rp K f H' σ (backs rs ds' δ) ((v, .v r) :: T) → Q v H') : spD K n P vs H Q E := by
  have pl := (Rp.outs R hl h nd).2
  exact R.called0 hl hn h nd p fun r ds' v H' hp hl2 R2 => q r ds' v H' hp (Rp.ins (rs := rs) R2 hl (by omega) nd pl)
end

section
variable {X : Cx} {f : Fm} {δ : Env} {e a b c : Expr} {es rest : List Expr} {st : Stmt} {sts : List Stmt} {pos p2 : Pos} {Ψ : Rs → Env → Prop} {Θ : Bool → Env → Prop} {Λ : List Rs → Env → Prop} {Φ : Ph}
variable {N : List Str} {sc : Scope}
/-! ### argument lists -/
theorem da_nil (k : Λ [] δ) : DA X f δ [] Λ := DA.of pa_nil fun σ H Q ⟨T, R, q⟩ => q [] δ [] H k rfl R
theorem da_cons (h : DE X f δ e fun r δ1 => DA X f δ1 es fun rs δ2 => Λ (r :: rs) δ2) (hs : starEach (e :: es) X.env = (false, eval e X.env) :: starEach es X.env := by rfl) : DA X f δ (e :: es) Λ :=
  DA.of (pa_cons h.h (pa_u (f := f)) hs) fun σ H Q ⟨T, R, q⟩ => ⟨T, R, fun r δ1 v H1 k R1 => ⟨δ1, _, k, (v, r) :: T, R1, fun rs δ2 vs H2 k2 hl R2 => q (r :: rs) δ2 (v :: vs) H2 k2 (by simp [hl]) (R2.perm List.perm_middle)⟩⟩
theorem DA.mono {Λ' : List Rs → Env → Prop} (h : DA X f δ es Λ) (i : ∀ r δ', Λ r δ' → Λ' r δ') : DA X f δ es Λ' := DA.of h.h fun σ H Q ⟨T, R, q⟩ => ⟨T, R, fun r δ' v H' p => q r δ' v H' (i r δ' p)⟩
/-- f(e, ..) of the module -/
theorem de_call {Pr : Program} {w : World} {K : PySem.W.Frag} {mg : Str → Option Value} {base : Heap} {k n : Nat} {x : Str} {p : Pos} {P : Pre} (B : Bd X N sc) (J : Jn X Pr w K mg base) (G : GFn Pr w K mg base k x n P) (hr : Room k X.A) (hg : Gls sc x)
    (h : DA X f δ (e :: es) fun rs δ1 => ∃ ds, rsvs δ1 rs = some ds ∧ rs.length = n ∧ (slots rs).Nodup ∧ P ds fun r ds' => Ψ (.v r) (backs rs ds' δ1))
    (hdb : (x == ("__debug__" : Str)) = false := by first | exact PlN.d (by with_reducible assumption) | decide) (he : starEach (e :: es) X.env = (false, eval e X.env) :: starEach es X.env := by rfl) (hpl : (backTo pos (starEach es X.env)).any (·.1) = false := by rfl) : DE X f δ (.Call (.Name x p) (e :: es) [] pos) Ψ := by
  obtain ⟨rfl, rfl, rfl, rfl, rfl⟩ := J
  obtain ⟨fa, fd, ps, hm, hk, hb, F⟩ := G.ex
  refine DE.of (pe_call F hr (B.glob hg) hm hk hb .nil pass0 h.h hdb he hpl) fun σ H Q ⟨T, R, q⟩ => ⟨T, R, fun rs δ1 vs H1 ⟨ds, e1, e2, e3, e4⟩ hl R1 => ?_⟩
  show spD X.K n P (vs ++ []) H1 Q E0
  rw [List.append_nil]
  exact R1.called hl e2 e1 e3 e4 fun r ds' v H' k R2 => q _ _ _ _ k R2
/-! ### statements -/
theorem DS.mono {Φ' : Ph} (h : DS X f δ st Φ) (i1 : ∀ δ', Φ.nx δ' → Φ'.nx δ') (i2 : ∀ d δ', Φ.rt d δ' → Φ'.rt d δ') (i3 : ∀ δ', Φ.bk δ' → Φ'.bk δ') (i4 : ∀ δ', Φ.ct δ' → Φ'.ct δ') : DS X f δ st Φ' :=
  DS.of h.h fun E σ H ⟨T, R, n, r, b, c⟩ => ⟨T, R, fun δ' σ' H' k => n δ' σ' H' (i1 _ k), fun d δ' v σ' H' k => r d δ' v σ' H' (i2 _ _ k), fun δ' σ' H' k => b δ' σ' H' (i3 _ k), fun δ' σ' H' k => c δ' σ' H' (i4 _ k)⟩
theorem tv_ns {T : List (V × D)} : ∀ c ∈ tv T, ∀ j, c.2 ≠ .s j := fun c m j e => by
  obtain ⟨x, _, q⟩ := List.mem_map.mp m
  rw [← q] at e
  cases e
theorem ne_all {l : List Nat} {i : Nat} (h : l.all (· != i) = true) : ∀ p ∈ l, p ≠ i := fun p m => by
  have := List.all_eq_true.mp h p m
  simpa using this
/-- slot i may be stored -/
def Unp (f : Fm) (i : Nat) : Prop := ∀ p ∈ f.pn, p ≠ i
theorem unp_of {l : List Nat} {i : Nat} (h : f.pn = l) (a : l.all (· != i) = true) : Unp f i := by
  unfold Unp
  rw [h]
  exact ne_all a
theorem ds_set {i : Nat} {x : Str} {pos' : Pos} (B : Bd X N sc) (hi : Sl N i x) (hx : Sto X sc x) (hu : Unp f i) (h : DE X f δ e fun r δ1 => ∃ d δ2, Take δ1 r d δ2 ∧ Φ.nx (δ2.set i (some d)))
    (hs : swapsWith e (some (.Name x pos')) pos.line X.env = pure false := by rfl) : DS X f δ (.Assign [.Name x pos'] e pos) Φ :=
  DS.of (ps_set B.ndX (B.ix hi) (B.loc hx) h.h hs (B.hf hx)) fun E σ H ⟨T, R, n, r, b, c⟩ => ⟨tv T, R, fun r δ1 v H1 ⟨d, δ2, t, k⟩ R1 => n _ _ _ k ((t.rp R1).store hu tv_ns)⟩
theorem ds_ret (h : DE X f δ e fun r δ1 => ∃ d δ2, Take δ1 r d δ2 ∧ Φ.rt d δ2) : DS X f δ (.Return (some e) pos) Φ :=
  DS.of (ps_ret h.h) fun E σ H ⟨T, R, n, r, b, c⟩ => ⟨tv T, R, fun r' δ1 v H1 ⟨d, δ2, t, k⟩ R1 => r d δ2 v σ H1 k (t.rp R1)⟩
theorem ds_expr (h : DE X f δ e fun _ δ1 => Φ.nx δ1) (hs : swapsWith e none pos.line X.env = pure false := by rfl) : DS X f δ (.Expr e pos) Φ :=
  DS.of (ps_expr h.h hs) fun E σ H ⟨T, R, n, r, b, c⟩ => ⟨tv T, R, fun r' δ1 v H1 k R1 => n _ _ _ k R1.tail⟩
theorem ds_if {s1 s2 : List Stmt} (h : DT X f δ c fun t δ1 => (t = true → DB X f δ1 s1 Φ) ∧ (t = false → DB X f δ1 s2 Φ)) : DS X f δ (.If c s1 s2 pos) Φ :=
  DS.of (ps_if h.h (pb_u (f := f)) (pb_u (f := f))) fun E σ H ⟨T, R, n, r, b, c⟩ => ⟨tv T, R, fun t δ1 H1 k R1 => by
    cases t with
    | true => exact ⟨δ1, Φ, k.1 rfl, T, R1, n, r, b, c⟩
    | false => exact ⟨δ1, Φ, k.2 rfl, T, R1, n, r, b, c⟩⟩
/-- xs[i] = e -/
inductive SetS (δ : Env) : Rs → Rs → D → (Env → Prop) → Prop
  | lst {j : Nat} {xs : List D} {i : Int} {m : Nat} {d : D} {P : Env → Prop} : δ[j]? = some (some (.lst xs)) → ixN xs.length i = some m → P (δ.set j (some (.lst (xs.set m d)))) → SetS δ (.s j) (.v (.int i)) d P
theorem zip_set {vs : List V} {ds : List D} {m : Nat} {v : V} {d : D} : (vs.set m v).zip (ds.set m d) = (vs.zip ds).set m (v, d) := by
  induction vs generalizing ds m with
  | nil => simp
  | cons a vs ih =>
    cases ds with
    | nil => simp
    | cons b ds =>
      cases m with
      | zero => rfl
      | succ m => simp only [List.set_cons_succ, List.zip_cons_cons]; rw [ih]
end
end Dl

namespace Dl
open PySem L2

/-! ### a def's body -/
def startD (N : List Str) (ds : List D) : Env := ds.map some ++ List.replicate (N.length - ds.length) none
def pnOf (pm : List Bool) : List Nat := (List.range pm.length).filter fun i => pm.getD i false
/-- what a body leaves of its arguments: the pinned ones as they stand, the others as they were handed -/
def fin : List Bool → List D → Env → Option (List D)
  | [], [], _ => some []
  | true :: pm, _ :: ds, some d :: δ => (fin pm ds δ).map (d :: ·)
  | false :: pm, d :: ds, _ :: δ => (fin pm ds δ).map (d :: ·)
  | _, _, _ => none
theorem mem_pnOf {pm : List Bool} {i : Nat} : i ∈ pnOf pm ↔ pm[i]? = some true := by
  unfold pnOf
  rw [List.mem_filter, List.mem_range, List.getD_eq_getElem?_getD]
  constructor
  · rintro ⟨h1, h2⟩
    rw [List.getElem?_eq_getElem h1] at h2 ⊢
    simpa using h2
  · intro h
    obtain ⟨h1, h2⟩ := List.getElem?_eq_some_iff.mp h
    exact ⟨h1, by rw [h]; rfl⟩
section
variable {K : PySem.W.Frag} {f : Fm} {H H' : Hp} {σ : St} {δ δ' δ1 : Env} {T T' : List (V × Rs)} {v w : V} {d e : D} {i j : Nat} {r : Rs} {p a : Addr} {o : HO} {F F1 F2 : Fp}
theorem cells_start : ∀ {N : List Str} {vs : List V} {ds : List D}, vs.length = ds.length → ∃ n, cells (L2.start N vs) (startD N ds) = vs.zip ds ++ List.replicate n (V.non, D.non) := by
  intro N vs ds h
  unfold L2.start startD cells
  rw [← h]
  refine ⟨N.length - vs.length, ?_⟩
  generalize N.length - vs.length = n
  induction vs generalizing ds with
  | nil =>
    cases ds with
    | nil =>
      induction n with
      | zero => rfl
      | succ n ih =>
        show (cl none none) :: List.zipWith cl (List.replicate n none) (List.replicate n none) = (V.non, D.non) :: List.replicate n (V.non, D.non)
        congr 1
    | cons d ds => cases h
  | cons v vs ih =>
    cases ds with
    | nil => cases h
    | cons d ds =>
      show (v, d) :: List.zipWith cl (vs.map some ++ List.replicate n none) (ds.map some ++ List.replicate n none) = (v, d) :: (vs.zip ds ++ List.replicate n (V.non, D.non))
      rw [ih (by simpa using h)]
theorem Sep.cat0 {R : V → D → Fp → Prop} {cs : List (V × D)} {n : Nat} {c : V × D} (h : Sep R cs F) (h0 : R c.1 c.2 fun _ => False) : Sep R (cs ++ List.replicate n c) F := by
  have := Sep.append h (Sep.freeAll (cs := List.replicate n c) fun c' m => by rw [(List.mem_replicate.mp m).2]; exact h0) fun _ _ q => q
  exact this.monoF fun x q => q.elim (fun q => q) (fun q => q.elim)
/-- at the entry -/
theorem Rp.start {N : List Str} {vs : List V} {ds : List D} {pm : List Bool} (hl : vs.length = ds.length) (hN : ds.length ≤ N.length) (hp : pm.length = ds.length) (s : Sep (OwnE K H) (vs.zip ds) F) :
    Rp K ⟨H, F, pnOf pm, fun i => vs.getD i .non, []⟩ H (L2.start N vs) (startD N ds) [] := by
  obtain ⟨n, e⟩ := cells_start (N := N) hl
  refine ⟨by unfold L2.start startD; simp [hl], fun i d h => ?_, ⟨F, ?_, fun x q => .inl q⟩, fun c m => (nomatch m), ⟨fun a u h _ _ => h, (fun p m => nomatch m), (fun p m => nomatch m)⟩, Tx.refl H, fun i m => ?_⟩
  · unfold startD at h
    unfold L2.start
    by_cases hi : i < ds.length
    · refine ⟨vs[i]'(by omega), ?_⟩
      rw [List.getElem?_append_left (by simp; omega), List.getElem?_map, List.getElem?_eq_getElem (by omega)]
      rfl
    · rw [List.getElem?_append_right (by simp; omega)] at h
      rw [List.getElem?_replicate] at h
      split at h <;> simp at h
  · show Sep (OwnE K H) (cells _ _) F
    rw [e]
    exact Sep.cat0 s OwnE.non
  · have h := mem_pnOf.mp m
    have hi := (List.getElem?_eq_some_iff.mp h).1
    unfold L2.start
    show _ = some (some (vs.getD i .non))
    rw [List.getElem?_append_left (by simp; omega), List.getElem?_map, List.getElem?_eq_getElem (by omega), List.getD_eq_getElem?_getD, List.getElem?_eq_getElem (by omega)]
    rfl
def ImmAt (pm : List Bool) (ds : List D) : Prop := ∀ (i : Nat) (d : D), pm[i]? = some false → ds[i]? = some d → Imm d
/-- the arguments at the end -/
theorem fin_sep {G : Fp} (ti : ∀ d, Imm d → ∀ v F, OwnE K H v d F → OwnE K H' v d fun _ => False) : ∀ {pm : List Bool} {vs : List V} {ds : List D} {σ : St} {δ : Env} {ds' : List D} {F : Fp}, fin pm ds δ = some ds' → vs.length = ds.length → ImmAt pm ds → (∀ i, pm[i]? = some true → σ[i]? = some (some (vs.getD i .non))) →
    σ.length = δ.length → Sep (OwnE K H) (vs.zip ds) G → Sep (OwnE K H') (cells σ δ) F → ds'.length = vs.length ∧ Sep (OwnE K H') (vs.zip ds') F := by
  intro pm
  induction pm with
  | nil =>
    intro vs ds σ δ ds' F h hl im pn hσ s0 s
    cases ds with
    | nil =>
      have e : ds' = [] := by unfold fin at h; exact (Option.some.inj h).symm
      have e2 : vs = [] := List.length_eq_zero_iff.mp hl
      subst e e2
      exact ⟨rfl, trivial⟩
    | cons d ds => unfold fin at h; cases h
  | cons b pm ih =>
    intro vs ds σ δ ds' F h hl im pn hσ s0 s
    cases ds with
    | nil => cases b <;> (unfold fin at h; cases h)
    | cons d ds =>
      cases vs with
      | nil => cases hl
      | cons v vs =>
        cases δ with
        | nil => cases b <;> (unfold fin at h; cases h)
        | cons y δ =>
          cases σ with
          | nil => cases hσ
          | cons x σ =>
            have im' : ImmAt pm ds := fun i d a b => im (i + 1) d a b
            have hl' : vs.length = ds.length := by simpa using hl
            have hσ' : σ.length = δ.length := by simpa using hσ
            have pn' : ∀ i, pm[i]? = some true → σ[i]? = some (some (vs.getD i .non)) := fun i a => pn (i + 1) a
            have s' : Sep (OwnE K H') (cl x y :: cells σ δ) F := s
            cases b with
            | true =>
              cases y with
              | none => unfold fin at h; cases h
              | some y =>
                have e1 : x = some v := by simpa using pn 0 rfl
                subst e1
                unfold fin at h
                cases q : fin pm ds δ with
                | none => rw [q] at h; cases h
                | some ds2 =>
                  rw [q] at h
                  cases h
                  have g : Sep (OwnE K H') ((v, y) :: vs.zip ds2) F := s'.under fun G' g => (ih q hl' im' pn' hσ' s0.tail g).2
                  exact ⟨by have := (ih q hl' im' pn' hσ' s0.tail s'.tail).1; simp [this], g⟩
            | false =>
              unfold fin at h
              cases q : fin pm ds δ with
              | none => rw [q] at h; cases h
              | some ds2 =>
                rw [q] at h
                cases h
                obtain ⟨l2, g⟩ := ih q hl' im' pn' hσ' s0.tail s'.tail
                obtain ⟨G1, g1, _⟩ := s0.get (i := 0) (v := v) (d := d) rfl
                have g3 : Sep (OwnE K H') ((v, d) :: vs.zip ds2) F := Sep.free g (ti d (im 0 d rfl rfl) v _ g1)
                exact ⟨by simp [l2], g3⟩
theorem imm_tx (t : Tx H H') {d : D} (i : Imm d) {v : V} {F : Fp} (o : OwnE K H v d F) : OwnE K H' v d fun _ => False := (i K H v F o).frame t fun _ q => q.elim
end
section
variable {P : Program} {w : World} {K : PySem.W.Frag} {mg : Str → Option Value} {base : Heap}
/-- THE RULE for a def: its body at the data level. pm: which arguments are handed to be changed (or are lists read) -/
theorem okD {x qual : Str} {st : Stmt} {f : Addr} {fd : FuncData} {N ps : List Str} {k : Nat} {pre : Pre} (pm : List Bool) (F : L2.Fun K x qual st f fd) (S : FnScope N ps (defScope st)) (hpm : pm.length = ps.length) (hps : ps.length ≤ N.length)
    (him : ∀ ds Φ, ds.length = ps.length → pre ds Φ → ImmAt pm ds)
    (hbody : ∀ (X : Cx) (f : Fm) (ds : List D) (Φ : D → List D → Prop), Bd X N (defScope st) → (∀ x, X.fn x = true) → Jn X P w K mg base → Room k X.A → f.pn = pnOf pm → ds.length = ps.length → pre ds Φ →
      DB X f (startD N ds) (defBody st) { nx := fun δ => ∃ ds', fin pm ds δ = some ds' ∧ Φ .non ds', rt := fun r δ => ∃ ds', fin pm ds δ = some ds' ∧ Φ r ds' }) : FnOk P w K mg base CX0 (k + 1) f fd ps (spD K ps.length pre) := by
  refine F.ok S spD_len fun cdv A outer s H vs Q E hr h => ?_
  obtain ⟨ds, F0, hl, hd, sp, Φ, p, q⟩ := h
  refine ⟨_, (hbody _ ⟨H, F0, pnOf pm, fun i => vs.getD i .non, []⟩ ds Φ ⟨rfl, rfl, rfl, S.nd, PassesOwn.never⟩ (fun _ => rfl) ⟨rfl, rfl, rfl, rfl, rfl⟩ hr rfl hd p).h, [], Rp.start (by omega) (by omega) (by omega) sp, fun δ' σ' H' ⟨ds', e, k⟩ R => ?_, fun r δ' v σ' H' ⟨ds', e, k⟩ R => ?_, fun _ _ _ z => z.elim, fun _ _ _ z => z.elim⟩
  · have R1 := R.pushL (d := .non) (v := .non) rfl
    obtain ⟨F', s, kk⟩ := R1.own
    have s2 : Sep (OwnE K H') ((V.non, D.non) :: cells σ' δ') F' := s
    refine q .non ds' .non H' k ⟨?_, ⟨F', ?_, kk⟩, fun a u h n => R.fr.k a u h n (fun p m => nomatch m), R.tx⟩
    · exact (fin_sep (fun d i v F o => imm_tx R.tx i o) e (by omega) (him ds Φ hd p) (fun i a => R.pin i (mem_pnOf.mpr a)) R.len sp s2.tail).1
    · exact s2.under fun G g => (fin_sep (fun d i v F o => imm_tx R.tx i o) e (by omega) (him ds Φ hd p) (fun i a => R.pin i (mem_pnOf.mpr a)) R.len sp g).2
  · obtain ⟨F', s, kk⟩ := R.own
    have s2 : Sep (OwnE K H') ((v, r) :: cells σ' δ') F' := s
    refine q r ds' v H' k ⟨?_, ⟨F', ?_, kk⟩, fun a u h n => R.fr.k a u h n (fun p m => nomatch m), R.tx⟩
    · exact (fin_sep (fun d i v F o => imm_tx R.tx i o) e (by omega) (him ds Φ hd p) (fun i a => R.pin i (mem_pnOf.mpr a)) R.len sp s2.tail).1
    · exact s2.under fun G g => (fin_sep (fun d i v F o => imm_tx R.tx i o) e (by omega) (him ds Φ hd p) (fun i a => R.pin i (mem_pnOf.mpr a)) R.len sp g).2
end
end Dl

namespace Dl
open PySem L2
section
variable {X : Cx} {f : Fm} {δ : Env} {e a b c : Expr} {es rest : List Expr} {st : Stmt} {sts : List Stmt} {pos p2 : Pos} {Ψ : Rs → Env → Prop} {Θ : Bool → Env → Prop} {Λ : List Rs → Env → Prop} {Φ : Ph}
variable {N : List Str} {sc : Scope} {Pr : Program} {w : World} {K : PySem.W.Frag} {mg : Str → Option Value} {base : Heap}
/-! ### built-in functions by their values -/
def CallOk (K : PySem.W.Frag) (f : Fm) (δ : Env) (r : List V → Hp → VK → Prop) (rs : List Rs) (P : D → Prop) : Prop :=
  ∀ (H : Hp) (σ : St) (T : List (V × Rs)) (vs : List V) (Q : VK), vs.length = rs.length → Rp K f H σ δ (vs.zip rs ++ T) → (∀ d v H', P d → Rp K f H' σ δ ((v, .v d) :: T) → Q v H') → r vs H Q
theorem de_bltn {id : String} {r : List V → Hp → VK → Prop} {x : Str} {p : Pos} (hc : CallR X (.builtin id) r) (B : Bd X N sc) (J : Jn X Pr w K mg base) (hg : Gls sc x) (hm : mg x = none) (hv : bootBuiltins x = some (.builtin id))
    (h : DA X f δ (e :: es) fun rs δ1 => CallOk X.K f δ1 r rs fun d => Ψ (.v d) δ1) (hn : x ≠ "__name__" := by first | exact PlN.n (by with_reducible assumption) | decide) (hdb : (x == ("__debug__" : Str)) = false := by first | exact PlN.d (by with_reducible assumption) | decide)
    (he : starEach (e :: es) X.env = (false, eval e X.env) :: starEach es X.env := by rfl) (hpl : (backTo pos (starEach es X.env)).any (·.1) = false := by rfl) : DE X f δ (.Call (.Name x p) (e :: es) [] pos) Ψ :=
  DE.of (pe_callB hc (B.glob hg) (by rw [J.mg]; exact hm) hv h.h hn hdb he hpl) fun σ H Q ⟨T, R, q⟩ => ⟨T, R, fun rs δ1 vs H1 k hl R1 => k H1 σ T vs Q hl R1 fun d v H' p R' => q _ _ _ _ p R'⟩
theorem de_bty {id : String} {r : List V → Hp → VK → Prop} {x : Str} {p : Pos} (hc : CallR X (.type id) r) (B : Bd X N sc) (J : Jn X Pr w K mg base) (hg : Gls sc x) (hm : mg x = none) (hv : bootBuiltins x = some (.type id))
    (h : DA X f δ (e :: es) fun rs δ1 => CallOk X.K f δ1 r rs fun d => Ψ (.v d) δ1) (hn : x ≠ "__name__" := by first | exact PlN.n (by with_reducible assumption) | decide) (hdb : (x == ("__debug__" : Str)) = false := by first | exact PlN.d (by with_reducible assumption) | decide)
    (he : starEach (e :: es) X.env = (false, eval e X.env) :: starEach es X.env := by rfl) (hpl : (backTo pos (starEach es X.env)).any (·.1) = false := by rfl) : DE X f δ (.Call (.Name x p) (e :: es) [] pos) Ψ :=
  DE.of (pe_callTy hc (B.glob hg) (by rw [J.mg]; exact hm) hv h.h hn hdb he hpl) fun σ H Q ⟨T, R, q⟩ => ⟨T, R, fun rs δ1 vs H1 k hl R1 => k H1 σ T vs Q hl R1 fun d v H' p R' => q _ _ _ _ p R'⟩
theorem one_of {rs : List Rs} {vs : List V} {r : Rs} {T : List (V × Rs)} (h : rs = [r]) (hl : vs.length = rs.length) : ∃ v, vs = [v] ∧ vs.zip rs ++ T = (v, r) :: T := by
  subst h
  cases vs with
  | nil => cases hl
  | cons v vs =>
    cases vs with
    | nil => exact ⟨v, rfl, rfl⟩
    | cons u vs => cases hl
theorem two_of {rs : List Rs} {vs : List V} {r s : Rs} {T : List (V × Rs)} (h : rs = [r, s]) (hl : vs.length = rs.length) : ∃ v w, vs = [v, w] ∧ vs.zip rs ++ T = (v, r) :: (w, s) :: T := by
  subst h
  cases vs with
  | nil => cases hl
  | cons v vs =>
    cases vs with
    | nil => cases hl
    | cons u vs =>
      cases vs with
      | nil => exact ⟨v, u, rfl, rfl⟩
      | cons _ _ => cases hl
/-- a call of one result -/
theorem callOk1 {r : List V → Hp → VK → Prop} {ra : Rs} {P : D → Prop} (h : ∀ (H : Hp) (σ : St) (T : List (V × Rs)) (v : V) (Q : VK), Rp K f H σ δ ((v, ra) :: T) → (∀ d v H', P d → Rp K f H' σ δ ((v, .v d) :: T) → Q v H') → r [v] H Q) : CallOk K f δ r [ra] P := fun H σ T vs Q hl R q => by
  obtain ⟨v, ev, ez⟩ := one_of (T := T) rfl hl
  subst ev
  exact h H σ T v Q R q
theorem callOk2 {r : List V → Hp → VK → Prop} {ra rb : Rs} {P : D → Prop} (h : ∀ (H : Hp) (σ : St) (T : List (V × Rs)) (v w : V) (Q : VK), Rp K f H σ δ ((v, ra) :: (w, rb) :: T) → (∀ d v H', P d → Rp K f H' σ δ ((v, .v d) :: T) → Q v H') → r [v, w] H Q) : CallOk K f δ r [ra, rb] P := fun H σ T vs Q hl R q => by
  obtain ⟨v, w, ev, ez⟩ := two_of (T := T) rfl hl
  subst ev
  exact h H σ T v w Q R q
/-! ### len -/
inductive LenS (δ : Env) : List Rs → (D → Prop) → Prop
  | seq {r : Rs} {d : D} {ds : List D} {P : D → Prop} : rsv δ r = some d → itemsOf d = some ds → P (.int (ds.length : Nat)) → LenS δ [r] P
  | str {z : Str} {P : D → Prop} : z.length ≤ sizeLine → P (.int (z.length : Nat)) → LenS δ [.v (.str z)] P
theorem LenS.ok {rs : List Rs} {P : D → Prop} (h : LenS δ rs P) : CallOk K f δ (fun xs H Q => ∃ x n, xs = [x] ∧ LenV K x H n ∧ Q (.int n) H) rs P := by
  cases h with
  | @seq r d ds _ h1 h2 p =>
    refine callOk1 fun H σ T v Q R q => ?_
    obtain ⟨F, o⟩ := R.res (v := v) (r := r) (by simp) h1
    obtain ⟨l, vs, rfl, hs, hl, _⟩ := own_items o h2
    refine ⟨_, ds.length, rfl, ?_, q _ _ _ p (R.tail.pushL rfl)⟩
    rcases hs with hs | hs
    · exact .inl ⟨vs, hs, hl.symm⟩
    · exact .inr ⟨vs, hs, hl.symm⟩
  | @str z _ h1 p =>
    refine callOk1 fun H σ T v Q R q => ?_
    cases R.vstr (v := v) (i := z) (by simp)
    exact ⟨_, z.length, rfl, ⟨h1, rfl⟩, q _ _ _ p (R.tail.pushL rfl)⟩
theorem imm_fzi {l : List Int} : Imm (.fz (l.map .int)) := imm_fz fun x m => by
  obtain ⟨i, _, rfl⟩ := List.mem_map.mp m
  exact imm_int
theorem imm_nil : ∀ x ∈ ([] : List D), Imm x := fun _ m => nomatch m
theorem imm_cons {d : D} {ds : List D} (h : Imm d) (t : ∀ x ∈ ds, Imm x) : ∀ x ∈ d :: ds, Imm x := fun x m => (List.mem_cons.mp m).elim (fun e => e ▸ h) (t x)
theorem imm_app {ds es : List D} (h : ∀ x ∈ ds, Imm x) (t : ∀ x ∈ es, Imm x) : ∀ x ∈ ds ++ es, Imm x := fun x m => (List.mem_append.mp m).elim (h x) (t x)
theorem imm_map {α : Type} {l : List α} {g : α → D} (h : ∀ a, Imm (g a)) : ∀ x ∈ l.map g, Imm x := fun x m => by
  obtain ⟨i, _, rfl⟩ := List.mem_map.mp m
  exact h i
/-! ### * of ints -/
theorem de_neg (h : DE X f δ a fun ra δ1 => ∃ i, ra = .v (.int i) ∧ Ψ (.v (.int (-i))) δ1) : DE X f δ (.UnaryOp .USub a pos) Ψ :=
  DE.of (pe_un un_neg h.h) fun σ H Q ⟨T, R, q⟩ => ⟨T, R, fun ra δ1 v H1 ⟨i, e, k⟩ R1 => by
    subst e
    cases R1.vint (v := v) (i := i) (by simp)
    exact ⟨i, rfl, q _ _ _ _ k (R1.tail.pushL rfl)⟩⟩
end
theorem atI_of {α : Type} {l : List α} {i : Int} (h0 : 0 ≤ i) (h1 : i < (l.length : Int)) : ∃ (j : Nat) (h : j < l.length), i = (j : Int) ∧ atI l i = some l[j] := by
  refine ⟨i.toNat, by omega, by omega, ?_⟩
  unfold atI ixN
  rw [if_pos h0, if_pos h1]
  show l[i.toNat]? = _
  rw [List.getElem?_eq_getElem (by omega)]
theorem atI_ints {l : List Int} {i : Int} (h0 : 0 ≤ i) (h1 : i < (l.length : Int)) : ∃ c, c ∈ l ∧ atI (l.map D.int) i = some (.int c) := by
  obtain ⟨j, hj, e, q⟩ := atI_of (l := l.map D.int) h0 (by simpa using h1)
  refine ⟨l[j]'(by simpa using hj), List.getElem_mem _, ?_⟩
  rw [q, List.getElem_map]
theorem ixN_of {n : Nat} {i : Int} (h0 : 0 ≤ i) (h1 : i < (n : Int)) : ixN n i = some i.toNat := by
  unfold ixN
  rw [if_pos h0, if_pos h1]
/-! ### what a goal is: cheap looks -/
section
variable {X : Cx} {f : Fm} {δ : Env} {e a b c : Expr} {es rest : List Expr} {st : Stmt} {sts : List Stmt} {pos p2 : Pos} {Ψ : Rs → Env → Prop} {Θ : Bool → Env → Prop} {Λ : List Rs → Env → Prop} {Φ : Ph}
theorem g_DE (h : DE X f δ e Ψ) : DE X f δ e Ψ := h
theorem g_DT (h : DT X f δ e Θ) : DT X f δ e Θ := h
theorem g_DW (h : DW X f δ e Θ) : DW X f δ e Θ := h
theorem g_DS (h : DS X f δ st Φ) : DS X f δ st Φ := h
theorem g_name {x : Str} (h : DE X f δ (.Name x pos) Ψ) : DE X f δ (.Name x pos) Ψ := h
theorem g_ix (h : DE X f δ (.Subscript a b pos) Ψ) : DE X f δ (.Subscript a b pos) Ψ := h
theorem g_callN {x : Str} (h : DE X f δ (.Call (.Name x p2) es [] pos) Ψ) : DE X f δ (.Call (.Name x p2) es [] pos) Ψ := h
theorem g_callA {o : Expr} {x : Str} (h : DE X f δ (.Call (.Attribute o x p2) es [] pos) Ψ) : DE X f δ (.Call (.Attribute o x p2) es [] pos) Ψ := h
theorem g_len (h : DE X f δ (.Call (.Name "len" p2) [e] [] pos) Ψ) : DE X f δ (.Call (.Name "len" p2) [e] [] pos) Ψ := h
theorem g_acons (h : DA X f δ (e :: es) Λ) : DA X f δ (e :: es) Λ := h
theorem g_set {x : Str} (h : DS X f δ (.Assign [.Name x p2] e pos) Φ) : DS X f δ (.Assign [.Name x p2] e pos) Φ := h
theorem g_setix (h : DS X f δ (.Assign [.Subscript a b p2] e pos) Φ) : DS X f δ (.Assign [.Subscript a b p2] e pos) Φ := h
theorem g_expr (h : DS X f δ (.Expr e pos) Φ) : DS X f δ (.Expr e pos) Φ := h
theorem g_And {A B : Prop} (h : A ∧ B) : A ∧ B := h
theorem g_Ex {α : Sort _} {p : α → Prop} (h : ∃ x, p x) : ∃ x, p x := h
end
/-! ### two ways -/
section
variable {A B : Prop}
theorem br_dec {p : Prop} [Decidable p] (h1 : p → A) (h2 : ¬ p → B) : (decide p = true → A) ∧ (decide p = false → B) := ⟨fun h => h1 (of_decide_eq_true h), fun h => h2 (of_decide_eq_false h)⟩
theorem br_int {i j : Int} (h1 : i = j → A) (h2 : ¬ i = j → B) : (decide (V.int i = V.int j) = true → A) ∧ (decide (V.int i = V.int j) = false → B) := ⟨fun h => h1 (by simpa using h), fun h => h2 (by simpa using h)⟩
theorem br_true (h1 : A) : (true = true → A) ∧ (true = false → B) := ⟨fun _ => h1, fun h => nomatch h⟩
theorem br_false (h2 : B) : (false = true → A) ∧ (false = false → B) := ⟨fun h => (nomatch h), fun _ => h2⟩
theorem br_sw {b : Bool} (h : (b = true → B) ∧ (b = false → A)) : ((!b) = true → A) ∧ ((!b) = false → B) := ⟨fun q => h.2 (by simpa using q), fun q => h.1 (by simpa using q)⟩
end
end Dl

namespace Dl
open PySem L2

/-! ### targets -/
def tG (K : PySem.W.Frag) (f : Fm) (δ : Env) (d : D) (sl : List Nat) (Ψ : Env → Prop) : TG := fun v σ H Q => ∃ T, Rp K f H σ δ ((v, .v d) :: tv T) ∧ ∀ δ' σ' H', Ψ δ' → σ'.length = σ.length → (∀ j : Nat, j ∉ sl → σ'[j]? = σ[j]?) → Rp K f H' σ' δ' (tv T) → Q σ' H'
def tGs (K : PySem.W.Frag) (f : Fm) (δ : Env) (ds : List D) (sl : List Nat) (Ψ : Env → Prop) : TGs := fun vs σ H Q => ∃ T, vs.length = ds.length ∧ Rp K f H σ δ (vs.zip (ds.map Rs.v) ++ tv T) ∧ ∀ δ' σ' H', Ψ δ' → σ'.length = σ.length → (∀ j : Nat, j ∉ sl → σ'[j]? = σ[j]?) → Rp K f H' σ' δ' (tv T) → Q σ' H'
structure DG (X : Cx) (f : Fm) (δ : Env) (tg : Expr) (d : D) (sl : List Nat) (Ψ : Env → Prop) : Prop where
  h : PG X tg (tG X.K f δ d sl Ψ)
structure DGs (X : Cx) (f : Fm) (δ : Env) (tgs : List Expr) (ds : List D) (sl : List Nat) (Ψ : Env → Prop) : Prop where
  h : PGs X tgs (tGs X.K f δ ds sl Ψ)
section
variable {X : Cx} {f : Fm} {δ : Env} {e a b c tg : Expr} {es rest tgs : List Expr} {st : Stmt} {sts : List Stmt} {pos p2 : Pos} {Ψ : Env → Prop} {Φ : Ph}
variable {N : List Str} {sc : Scope}
theorem pg_imp {t t' : TG} (h : PG X tg t) (i : ∀ v σ H Q, t' v σ H Q → t v σ H Q) : PG X tg t' := ⟨fun pins s σ H v u Q I r q => h.run pins s σ H v u Q I r (i v σ H Q q)⟩
theorem pgs_imp {t t' : TGs} (h : PGs X tgs t) (i : ∀ v σ H Q, t' v σ H Q → t v σ H Q) : PGs X tgs t' := ⟨fun pins s σ H v u Q I r q => h.run pins s σ H v u Q I r (i v σ H Q q)⟩
def uG (X : Cx) (f : Fm) (tg : Expr) : TG := fun v σ H Q => ∃ δ d sl Ψ, DG X f δ tg d sl Ψ ∧ tG X.K f δ d sl Ψ v σ H Q
def uGs (X : Cx) (f : Fm) (tgs : List Expr) : TGs := fun v σ H Q => ∃ δ d sl Ψ, DGs X f δ tgs d sl Ψ ∧ tGs X.K f δ d sl Ψ v σ H Q
theorem pg_u : PG X tg (uG X f tg) := ⟨fun pins s σ H v u Q I r ⟨_, _, _, _, h, q⟩ => h.h.run pins s σ H v u Q I r q⟩
theorem pgs_u : PGs X tgs (uGs X f tgs) := ⟨fun pins s σ H v u Q I r ⟨_, _, _, _, h, q⟩ => h.h.run pins s σ H v u Q I r q⟩
theorem DG.mono {d : D} {sl : List Nat} {Ψ' : Env → Prop} (h : DG X f δ tg d sl Ψ) (i : ∀ δ', Ψ δ' → Ψ' δ') : DG X f δ tg d sl Ψ' := ⟨pg_imp h.h fun v σ H Q ⟨T, R, q⟩ => ⟨T, R, fun δ' σ' H' k => q δ' σ' H' (i _ k)⟩⟩
theorem dg_name {i : Nat} {x : Str} {d : D} (B : Bd X N sc) (hi : Sl N i x) (hx : Sto X sc x) (hu : Unp f i) (k : Ψ (δ.set i (some d))) : DG X f δ (.Name x pos) d [i] Ψ :=
  ⟨pg_imp (pg_name B.ndX (B.ix hi) (B.loc hx) (B.hf hx)) fun v σ H Q ⟨T, R, q⟩ => q _ _ _ k (by simp) (fun j hj => List.getElem?_set_ne (fun z => hj (by simp [z]))) (R.store hu tv_ns)⟩
theorem dgs_nil (k : Ψ δ) : DGs X f δ [] [] [] Ψ := ⟨pgs_imp pgs_nil fun vs σ H Q ⟨T, hl, R, q⟩ => by
  cases vs with
  | nil => exact ⟨rfl, q δ σ H k rfl (fun _ _ => rfl) R⟩
  | cons _ _ => cases hl⟩
theorem tv_zip {vs : List V} {ds : List D} {T : List (V × D)} : tv (vs.zip ds ++ T) = vs.zip (ds.map Rs.v) ++ tv T := by
  unfold tv
  rw [List.map_append]
  congr 1
  induction vs generalizing ds with
  | nil => rfl
  | cons v vs ih =>
    cases ds with
    | nil => rfl
    | cons d ds => exact congrArg ((v, Rs.v d) :: ·) ih
theorem dgs_cons {d : D} {ds : List D} {s1 s2 : List Nat} (h : DG X f δ e d s1 fun δ1 => DGs X f δ1 es ds s2 Ψ) (hs : (assignEach (e :: es) X.env).map (·.2) = assign e X.env :: (assignEach es X.env).map (·.2) := by rfl) : DGs X f δ (e :: es) (d :: ds) (s1 ++ s2) Ψ :=
  ⟨pgs_imp (pgs_cons h.h (pgs_u (f := f)) hs) fun vs σ H Q ⟨T, hl, R, q⟩ => by
    cases vs with
    | nil => cases hl
    | cons v vs =>
      have hl' : vs.length = ds.length := by simpa using hl
      refine ⟨v, vs, rfl, vs.zip ds ++ T, ?_, fun δ1 σ1 H1 k l1 s1' R1 => ?_⟩
      · rw [tv_zip]
        exact R
      · rw [tv_zip] at R1
        refine ⟨δ1, ds, s2, Ψ, k, T, hl', R1, fun δ' σ' H' k2 l2 s2' R2 => q δ' σ' H' k2 (l2.trans l1) (fun j hj => ?_) R2⟩
        rw [s2' j (fun z => hj (List.mem_append_right _ z)), s1' j (fun z => hj (List.mem_append_left _ z))]⟩
theorem Rp.untup {K : PySem.W.Frag} {H : Hp} {σ : St} {T : List (V × Rs)} {v : V} {ds : List D} (R : Rp K f H σ δ ((v, .v (.tup ds)) :: T)) : ∃ a vs, v = .ref a ∧ SqT K H a vs ∧ vs.length = ds.length ∧ Rp K f H σ δ (vs.zip (ds.map Rs.v) ++ T) := by
  obtain ⟨F, s, k⟩ := R.own
  obtain ⟨F1, F2, h1, h2, h3, h4, h5⟩ := s
  obtain ⟨a, vs, rfl, n, hl, F3, s3, k3, _⟩ := h1.of_node rfl (fun _ _ q => nomatch q)
  refine ⟨a, vs, rfl, n, hl, R.len, R.has, ⟨fun x => F3 x ∨ F2 x, ?_, fun x q => ?_⟩, fun c m j e => ?_, R.fr, R.tx, R.pin⟩
  · have em : ∀ (vs : List V) (ds : List D), (vs.zip (ds.map Rs.v)).map tc = vs.zip ds := by
      intro vs
      induction vs with
      | nil => intro ds; rfl
      | cons v vs ih =>
        intro ds
        cases ds with
        | nil => rfl
        | cons d ds => show (v, d) :: (vs.zip (ds.map Rs.v)).map tc = (v, d) :: vs.zip ds; rw [ih]
    rw [List.map_append, em, List.append_assoc]
    exact Sep.append s3 h2 fun x q z => h3 x (k3 x q) z
  · rcases q with q | q
    · exact k x (h4 x (k3 x q))
    · exact k x (h5 x q)
  · rcases List.mem_append.mp m with m | m
    · obtain ⟨v1, r1⟩ := c
      obtain ⟨x, _, ex⟩ := List.mem_map.mp (List.of_mem_zip m).2
      cases ex
      cases e
    · exact R.tmp c (List.mem_cons_of_mem _ m) j e
theorem dg_tup {k : Nat} {ds : List D} {sl : List Nat} (B : Bd X N sc) (h : DGs X f δ es ds sl Ψ) (hn : (assignEach es X.env).length = ds.length := by rfl) (hst : (assignEach es X.env).findIdx? (·.1) = none := by rfl) : DG X f δ (.Tuple es k pos) (.tup ds) sl Ψ :=
  ⟨pg_imp (pg_tup B.calm h.h hn hst) fun v σ H Q ⟨T, R, q⟩ => by
    obtain ⟨a, vs, ev, hs, hl, R1⟩ := R.untup
    exact ⟨a, vs, ev, hs, hl, T, hl, R1, q⟩⟩
/-- target = e, any target -/
theorem ds_asg {sl : List Nat} {d : D} (h : DE X f δ e fun r δ1 => ∃ d δ2 sl, Take δ1 r d δ2 ∧ DG X f δ2 tg d sl Φ.nx) (hs : swapsWithSole [tg] e pos.line X.env = pure false := by rfl) (hw : swappedStores [tg] e X.env = pure none := by rfl)
    (h1 : (assignEach [tg] X.env).map (·.2) = [assign tg X.env] := by rfl) : DS X f δ (.Assign [tg] e pos) Φ :=
  DS.of (ps_asg h.h (pg_u (f := f)) hs hw h1) fun E σ H ⟨T, R, n, r, b, c⟩ => ⟨tv T, R, fun r' δ1 v H1 ⟨d, δ2, sl, t, k⟩ R1 => ⟨δ2, d, sl, _, k, T, t.rp R1, fun δ' σ' H' k2 _ _ R2 => n δ' σ' H' k2 R2⟩⟩
end

/-! ### what is walked -/
def Gv (K : PySem.W.Frag) (J : It) (ds : List D) (ss : List (V × D)) : Prop :=
  ∀ H, (∀ c ∈ ss, ∃ F, OwnE K H c.1 c.2 F) → J.stop ds.length H ∧ ∀ (i : Nat) (d : D), ds[i]? = some d → J.go i H ∧ ∀ x H', J.yld i H x H' → Same H H' ∧ ∃ F, OwnE K H' x d F
def tI (K : PySem.W.Frag) (f : Fm) (δ : Env) (Ψ : List Rs → List D → Env → Prop) : TI := fun σ H R => ∃ T, Rp K f H σ δ T ∧
  ∀ (rs : List Rs) (ds es : List D) (δ' : Env) (vs : List V) (H' : Hp) (J : It), Ψ rs ds δ' → vs.length = rs.length → rsvs δ' rs = some es → (∀ d ∈ ds, Imm d) → Rp K f H' σ δ' (vs.zip rs ++ T) → Gv K J ds (vs.zip es) → R J H'
structure DI (X : Cx) (f : Fm) (δ : Env) (tg iter : Expr) (Ψ : List Rs → List D → Env → Prop) : Prop where
  h : PI X tg iter (tI X.K f δ Ψ)
section
variable {X : Cx} {f : Fm} {δ : Env} {e a b c tg iter : Expr} {es rest tgs : List Expr} {st : Stmt} {sts : List Stmt} {pos p2 : Pos} {Ψ : List Rs → List D → Env → Prop} {Φ : Ph}
variable {N : List Str} {sc : Scope} {Pr : Program} {w : World} {K : PySem.W.Frag} {mg : Str → Option Value} {base : Heap}
theorem pi_imp {t t' : TI} (h : PI X tg iter t) (i : ∀ σ H R, t' σ H R → t σ H R) : PI X tg iter t' := ⟨fun pins s σ H R I q => h.run pins s σ H R I (i σ H R q)⟩
/-- a list, a tuple, a text -/
def iSeq (K : PySem.W.Frag) (tl : TE) : TI := fun σ H R => tl σ H fun x H1 => (∃ a, x = .ref a ∧ (((∃ xs, SqL K H1 a xs) ∧ R (Itl K a) H1) ∨ ((∃ xs, SqT K H1 a xs) ∧ R (Itt K a) H1))) ∨ ∃ z, x = .str z ∧ R (Its z) H1
theorem pi_seq {l : Expr} {tl : TE} (hl : PE X l tl) : PI X tg l (iSeq X.K tl) := by
  refine ⟨fun pins s σ H R I h => ?_⟩
  refine thn (hl.run pins s σ H _ I h) fun v s1 ⟨x, H1, I1, r1, q1⟩ => ?_
  rcases q1 with ⟨a, e, ⟨⟨xs, hq⟩, q⟩ | ⟨⟨xs, hq⟩, q⟩⟩ | ⟨z, ez, q⟩
  · subst e
    cases r1
    obtain ⟨its, rv, p, hz⟩ := I1.list hq
    refine wpAny_pyIter_list p.isList ?_
    refine ⟨s1.heap.objs.size, [s1.heap.objs.size], _, _, H1, rfl, I1.kept (t' := s1.toks) fun b o e => Heap.get?_push_of_some _ e, turn_list a _, ⟨_, Heap.get?_push_size _ rfl, rfl, rfl⟩, fun b hb => ?_, q⟩
    have e : b = s1.heap.objs.size := by simpa using hb
    subst e
    exact I1.fpOk (Nat.le_refl _) (I1.hok.fresh (Nat.le_refl _))
  · subst e
    cases r1
    obtain ⟨its, rv, p, hz⟩ := I1.tuple hq
    refine wpAny_pyIter_tuple (show s1.heap.IsTuple a its.toArray from p) ?_
    refine ⟨s1.heap.objs.size, [s1.heap.objs.size], _, _, H1, rfl, I1.kept (t' := s1.toks) fun b o e => Heap.get?_push_of_some _ e, turn_tuple a _, ⟨_, Heap.get?_push_size _ rfl, rfl, rfl⟩, fun b hb => ?_, q⟩
    have e : b = s1.heap.objs.size := by simpa using hb
    subst e
    exact I1.fpOk (Nat.le_refl _) (I1.hok.fresh (Nat.le_refl _))
  · subst ez
    obtain ⟨t, rfl⟩ := r1
    cases ha : z.cps.all (· < 128)
    · exact wpAny_pyIter_wide ha (pi_one (tk := s1.toks) I1 _ (turn_str _ z t "str_iterator" (.inr rfl)) ⟨_, Heap.get?_push_size _ rfl, rfl, rfl⟩ q)
    · exact wpAny_pyIter_ascii ha (pi_one (tk := s1.toks) I1 _ (turn_str _ z t "str_ascii_iterator" (.inl rfl)) ⟨_, Heap.get?_push_size _ rfl, rfl, rfl⟩ q)
/-- the signs of a text as items -/
def signs (z : Str) : List D := z.cps.toList.map fun c => .str ⟨#[c]⟩
inductive SeqS (δ : Env) : Rs → (List Rs → List D → Prop) → Prop
  | seq {r : Rs} {d : D} {ds : List D} {P : List Rs → List D → Prop} : rsv δ r = some d → itemsOf d = some ds → (∀ x ∈ ds, Imm x) → P [r] ds → SeqS δ r P
  | str {z : Str} {P : List Rs → List D → Prop} : P [.v (.str z)] (signs z) → SeqS δ (.v (.str z)) P
theorem gv_seqL {a : Addr} {d : D} {ds : List D} (hi : itemsOf d = some ds) (ht : ∀ H F, OwnE K H (.ref a) d F → ∃ vs, SqL K H a vs ∧ vs.length = ds.length ∧ ∃ F', Sep (OwnE K H) (vs.zip ds) F') : Gv K (Itl K a) ds [(.ref a, d)] := fun H h => by
  obtain ⟨F, o⟩ := h (.ref a, d) List.mem_cons_self
  obtain ⟨vs, hs, hl, F', s⟩ := ht H F o
  refine ⟨⟨vs, hs, by omega⟩, fun i d' hd => ?_⟩
  obtain ⟨v, e1, e2⟩ := zip_get hl hd
  refine ⟨⟨vs, v, hs, e1⟩, fun x H' ⟨eH, y⟩ => ?_⟩
  subst eH
  have := y vs hs
  rw [e1] at this
  cases this
  obtain ⟨F1, q, _⟩ := s.get e2
  exact ⟨Same.refl _, F1, q⟩
theorem gv_seqT {a : Addr} {ds : List D} : Gv K (Itt K a) ds [(.ref a, .tup ds)] := fun H h => by
  obtain ⟨F, o⟩ := h (.ref a, .tup ds) List.mem_cons_self
  obtain ⟨a', vs, ea, hs, hl, F', s⟩ := own_tup o
  cases ea
  refine ⟨⟨vs, hs, by omega⟩, fun i d' hd => ?_⟩
  obtain ⟨v, e1, e2⟩ := zip_get hl hd
  refine ⟨⟨vs, v, hs, e1⟩, fun x H' ⟨eH, y⟩ => ?_⟩
  subst eH
  have := y vs hs
  rw [e1] at this
  cases this
  obtain ⟨F1, q, _⟩ := s.get e2
  exact ⟨Same.refl _, F1, q⟩
theorem gv_str {v : V} {z : Str} : Gv K (Its z) (signs z) [(v, .str z)] := fun H _ => by
  refine ⟨by show z.cps.size ≤ (signs z).length; simp [signs], fun i d hd => ?_⟩
  unfold signs at hd
  rw [List.getElem?_map] at hd
  cases q : z.cps.toList[i]? with
  | none => rw [q] at hd; cases hd
  | some c =>
    rw [q] at hd
    cases hd
    have hi := (List.getElem?_eq_some_iff.mp q).1
    refine ⟨by show i < z.cps.size; simpa using hi, fun x H' ⟨eH, c', e1, e2⟩ => ?_⟩
    subst eH e2
    have : z.cps[i]? = some c := by simpa using q
    rw [this] at e1
    cases e1
    exact ⟨Same.refl _, fun _ => False, .str⟩
theorem own_fz {H : Hp} {v : V} {ds : List D} {F : Fp} (o : OwnE K H v (.fz ds) F) : ∃ p vs, v = .ref p ∧ SqL K H p vs ∧ vs.length = ds.length ∧ ∃ F', Sep (OwnE K H) (vs.zip ds) F' := by
  obtain ⟨a, vs, rfl, h2, h3, F', h4, _⟩ := o.of_node rfl (fun _ _ q => nomatch q)
  refine ⟨a, vs, rfl, ?_, h3, F', h4⟩
  rcases h2 with ⟨o, h2⟩ | h2
  · exact .inl (.inr ⟨o, h2⟩)
  · exact .inr h2
theorem di_seq (h : DE X f δ e fun r δ1 => SeqS δ1 r fun rs ds => Ψ rs ds δ1) : DI X f δ tg e Ψ :=
  ⟨pi_imp (pi_seq h.h) fun σ H R ⟨T, Rr, q⟩ => ⟨T, Rr, fun r δ1 v H1 k R1 => by
    cases k with
    | @seq r d ds _ h1 h2 h3 p =>
      obtain ⟨F, o⟩ := R1.res (v := v) (r := r) (by simp) h1
      have es : rsvs δ1 [r] = some [d] := by unfold rsvs rsvs; rw [h1]
      cases d with
      | tup xs =>
        cases h2
        obtain ⟨a, vs, rfl, hs, hl, _⟩ := own_tup o
        exact .inl ⟨a, rfl, .inr ⟨⟨vs, hs⟩, q [r] ds [.tup ds] δ1 [.ref a] H1 _ p rfl es h3 R1 gv_seqT⟩⟩
      | tk xs =>
        cases h2
        obtain ⟨a, vs, rfl, hs, hl, _⟩ := own_tup o.tkt
        refine .inl ⟨a, rfl, .inr ⟨⟨vs, hs⟩, q [r] ds [.tk ds] δ1 [.ref a] H1 _ p rfl es h3 R1 ?_⟩⟩
        exact fun H h => gv_seqT H fun c m => by
          rw [List.mem_singleton.mp m]
          obtain ⟨F, o⟩ := h _ List.mem_cons_self
          exact ⟨F, o.tkt⟩
      | lst xs =>
        cases h2
        obtain ⟨a, vs, rfl, hs, hl, _⟩ := own_lst o
        refine .inl ⟨a, rfl, .inl ⟨⟨vs, SqL.of hs⟩, q [r] ds [.lst ds] δ1 [.ref a] H1 _ p rfl es h3 R1 (gv_seqL rfl fun H F o => ?_)⟩⟩
        obtain ⟨a', vs', ea, h1, h2⟩ := own_lst o
        cases ea
        exact ⟨vs', SqL.of h1, h2⟩
      | fz xs =>
        cases h2
        obtain ⟨a, vs, rfl, hs, hl, _⟩ := own_fz o
        refine .inl ⟨a, rfl, .inl ⟨⟨vs, hs⟩, q [r] ds [.fz ds] δ1 [.ref a] H1 _ p rfl es h3 R1 (gv_seqL rfl fun H F o => ?_)⟩⟩
        obtain ⟨a', vs', ea, h1, h2⟩ := own_fz o
        cases ea
        exact ⟨vs', h1, h2⟩
      | _ => cases h2
    | @str z _ p =>
      cases R1.vstr (v := v) (i := z) (by simp)
      refine .inr ⟨z, rfl, q [.v (.str z)] (signs z) [.str z] δ1 [.str z] H1 _ p rfl rfl (fun d m => ?_) R1 gv_str⟩
      obtain ⟨c, _, rfl⟩ := List.mem_map.mp m
      exact imm_str⟩⟩
/-- range(n), range(a, b) -/
def rngD (lo : Int) (n : Nat) : List D := (List.range n).map fun i => .int (lo + (i : Nat))
theorem rngD_len {lo : Int} {n : Nat} : (rngD lo n).length = n := by simp [rngD]
theorem rngD_get {lo : Int} {n i : Nat} {d : D} (h : (rngD lo n)[i]? = some d) : i < n ∧ d = .int (lo + (i : Nat)) := by
  unfold rngD at h
  rw [List.getElem?_map] at h
  cases q : (List.range n)[i]? with
  | none => rw [q] at h; cases h
  | some j =>
    rw [q] at h
    cases h
    obtain ⟨h1, h2⟩ := List.getElem?_eq_some_iff.mp q
    simp at h1 h2
    subst h2
    exact ⟨h1, rfl⟩
theorem rngD_imm {lo : Int} {n : Nat} : ∀ d ∈ rngD lo n, Imm d := fun d m => by
  obtain ⟨i, _, rfl⟩ := List.mem_map.mp m
  exact imm_int
theorem gv_range {lo : Int} {n : Nat} {ss : List (V × D)} : Gv K (Itr lo n) (rngD lo n) ss := fun H _ => by
  refine ⟨by show n ≤ _; rw [rngD_len]; exact Nat.le_refl _, fun i d hd => ?_⟩
  obtain ⟨h1, h2⟩ := rngD_get hd
  refine ⟨h1, fun x H' ⟨eH, ex⟩ => ?_⟩
  subst eH ex h2
  exact ⟨Same.refl _, fun _ => False, .int⟩
theorem di_range {p : Pos} (B : Bd X N sc) (J : Jn X Pr w K mg base) (hg : Gls sc "range") (hm : mg "range" = none) (h : DA X f δ [a] fun rs δ1 => ∃ n, rs = [.v (.int n)] ∧ (-(2 ^ 62) ≤ n ∧ n < 2 ^ 62) ∧ Ψ [] (rngD 0 n.toNat) δ1) (hs : starEach [a] X.env = [(false, eval a X.env)] := by rfl) :
    DI X f δ tg (.Call (.Name "range" p) [a] [] pos) Ψ :=
  ⟨pi_imp (pi_range1 (B.glob hg) (by rw [J.mg]; exact hm) h.h hs) fun σ H R ⟨T, Rr, q⟩ => ⟨T, Rr, fun rs δ1 vs H1 ⟨n, e, hb, k⟩ hl R1 => by
    obtain ⟨v, ev, ez⟩ := one_of (T := T) e hl
    subst ev
    rw [ez] at R1
    cases R1.vint (v := v) (i := n) (by simp)
    exact ⟨n, rfl, hb.1, hb.2, q [] _ [] δ1 [] H1 _ k rfl rfl rngD_imm R1.tail gv_range⟩⟩⟩
theorem di_range2 {p : Pos} (B : Bd X N sc) (J : Jn X Pr w K mg base) (hg : Gls sc "range") (hm : mg "range" = none)
    (h : DA X f δ [a, b] fun rs δ1 => ∃ m n, rs = [.v (.int m), .v (.int n)] ∧ (-(2 ^ 62) ≤ m ∧ m < 2 ^ 62 ∧ -(2 ^ 62) ≤ n ∧ n < 2 ^ 62) ∧ Ψ [] (rngD m (n - m).toNat) δ1)
    (hs : starEach [a, b] X.env = [(false, eval a X.env), (false, eval b X.env)] := by rfl) (hs2 : starEach [b] X.env = [(false, eval b X.env)] := by rfl) :
    DI X f δ tg (.Call (.Name "range" p) [a, b] [] pos) Ψ :=
  ⟨pi_imp (pi_range2 (B.glob hg) (by rw [J.mg]; exact hm) h.h hs hs2) fun σ H R ⟨T, Rr, q⟩ => ⟨T, Rr, fun rs δ1 vs H1 ⟨m, n, e, hb, k⟩ hl R1 => by
    obtain ⟨v, u, ev, ez⟩ := two_of (T := T) e hl
    subst ev
    rw [ez] at R1
    cases R1.vint (v := v) (i := m) (by simp)
    cases R1.vint (v := u) (i := n) (by simp)
    exact ⟨m, n, rfl, hb, q [] _ [] δ1 [] H1 _ k rfl rfl rngD_imm R1.tail2 gv_range⟩⟩⟩

/-! ### for, while -/
theorem tv_zipv {vs : List V} {es : List D} {T : List (V × D)} : vs.zip (es.map Rs.v) ++ tv T = tv (vs.zip es ++ T) := tv_zip.symm
theorem rs_v : ∀ {rs : List Rs} {es : List D}, slots rs = [] → rsvs δ rs = some es → rs = es.map Rs.v
  | [], es, _, h => by cases h; rfl
  | .v d :: rs, es, hs, h => by
    unfold rsvs at h
    cases e2 : rsvs δ rs with
    | none => rw [e2] at h; cases h
    | some ds' =>
      rw [e2] at h
      cases h
      show Rs.v d :: rs = Rs.v d :: ds'.map Rs.v
      rw [rs_v (rs := rs) hs e2]
  | .s i :: rs, es, hs, _ => by cases hs
  | .p _ i _ :: rs, es, hs, _ => by cases hs
/-- for target in iter: body, the walked thing not a list that stands in a slot -/
theorem ds_for {body : List Stmt} (B : Bd X N sc) (h : DI X f δ tg iter fun rs ds δ1 => slots rs = [] ∧ ∃ I : Nat → Env → Prop, I 0 δ1 ∧
      (∀ (i : Nat) (d : D) δ2, ds[i]? = some d → I i δ2 → ∃ sl, DG X f δ2 tg d sl fun δ3 => DB X f δ3 body { nx := I (i + 1), rt := Φ.rt, bk := Φ.nx, ct := I (i + 1) }) ∧ ∀ δ2, I ds.length δ2 → Φ.nx δ2)
    (hs : ∀ x, foldedSetIterable iter X.env x = pure x := by intro _; rfl) : DS X f δ (.For tg iter body [] pos) Φ :=
  DS.of (ps_for B.pass B.calm h.h (pg_u (f := f)) (pb_u (f := f)) hs) fun E σ H ⟨T, R, n, r, b, c⟩ => ⟨tv T, R, fun rs ds es δ1 vs H1 J ⟨hsl, I, i0, st, en⟩ hl he him R1 g => by
    have erv := rs_v hsl he
    subst erv
    rw [tv_zipv] at R1
    have src : ∀ {H2 : Hp} {σ2 : St} {δ2 : Env}, Rp X.K f H2 σ2 δ2 (tv (vs.zip es ++ T)) → ∀ c ∈ vs.zip es, ∃ F, OwnE X.K H2 c.1 c.2 F := fun R2 c m => R2.res (r := .v c.2) (List.mem_map.mpr ⟨c, List.mem_append_left _ m, rfl⟩) rfl
    have drop : ∀ {H2 : Hp} {σ2 : St} {δ2 : Env} {cs : List (V × D)}, Rp X.K f H2 σ2 δ2 (tv (cs ++ T)) → Rp X.K f H2 σ2 δ2 (tv T) := by
      intro H2 σ2 δ2 cs
      induction cs with
      | nil => exact fun h => h
      | cons c cs ih => exact fun h => ih (Rp.tail h)
    have drop1 : ∀ {H2 : Hp} {σ2 : St} {δ2 : Env} {cs : List (V × D)} {c : V × Rs}, Rp X.K f H2 σ2 δ2 (c :: tv (cs ++ T)) → Rp X.K f H2 σ2 δ2 (c :: tv T) := by
      intro H2 σ2 δ2 cs
      induction cs with
      | nil => exact fun h => h
      | cons c cs ih => exact fun h => ih ((h.perm (List.Perm.swap _ _ _)).tail)
    refine ⟨fun i m σ2 H2 => m = ds.length - i ∧ i ≤ ds.length ∧ ∃ δ2, I i δ2 ∧ Rp X.K f H2 σ2 δ2 (tv (vs.zip es ++ T)), ⟨ds.length, by simp, Nat.zero_le _, δ1, i0, R1⟩, ?_⟩
    rintro i m σ2 H2 ⟨rfl, hi, δ2, k2, R2⟩
    obtain ⟨g1, g2⟩ := g H2 (src R2)
    by_cases hlt : i < ds.length
    · have hd : ds[i]? = some ds[i] := List.getElem?_eq_getElem hlt
      obtain ⟨gg, gy⟩ := g2 i _ hd
      refine .inr ⟨gg, fun σ' H' => ∃ δ', I (i + 1) δ' ∧ Rp X.K f H' σ' δ' (tv (vs.zip es ++ T)), fun σ' H' ⟨δ', k', R'⟩ => ⟨ds.length - (i + 1), by omega, rfl, hlt, δ', k', R'⟩, fun x H' y => ?_⟩
      obtain ⟨sm, F, o⟩ := gy x H' y
      obtain ⟨sl, hg⟩ := st i _ δ2 hd k2
      refine ⟨δ2, _, sl, _, hg, vs.zip es ++ T, (R2.same sm).pushI o (him _ (List.getElem_mem _)), fun δ3 σ3 H3 k3 _ _ R3 => ⟨δ3, _, k3, vs.zip es ++ T, R3, fun δ' σ' H' k R' => ⟨δ', k, R'⟩, fun d δ' v σ' H' k R' => r d δ' v σ' H' k (drop1 R'), fun δ' σ' H' k R' => n δ' σ' H' k (drop R'), fun δ' σ' H' k R' => ⟨δ', k, R'⟩⟩⟩
    · have e : i = ds.length := by omega
      subst e
      exact .inl ⟨g1, n δ2 σ2 H2 (en δ2 k2) (drop R2)⟩⟩
theorem ds_while {body : List Stmt} (B : Bd X N sc) (W : Nat → Env → Prop) (m0 : Nat) (h0 : W m0 δ)
    (hs : ∀ m δ2, W m δ2 → DT X f δ2 c fun t δ3 => (t = true → DB X f δ3 body { nx := fun δ4 => ∃ m', m' < m ∧ W m' δ4, rt := Φ.rt, bk := Φ.nx, ct := fun δ4 => ∃ m', m' < m ∧ W m' δ4 }) ∧ (t = false → Φ.nx δ3)) : DS X f δ (.While c body [] pos) Φ :=
  DS.of (ps_while B.pass (pt_u (f := f)) (pb_u (f := f))) fun E σ H ⟨T, R, n, r, b, cc⟩ => by
    refine ⟨fun m σ2 H2 => ∃ δ2, W m δ2 ∧ Rp X.K f H2 σ2 δ2 (tv T), ⟨m0, δ, h0, R⟩, fun m σ2 H2 ⟨δ2, w2, R2⟩ => ⟨δ2, _, hs m δ2 w2, tv T, R2, fun t δ3 H3 k R3 => ?_⟩⟩
    cases t with
    | true =>
      rw [if_pos rfl]
      refine ⟨fun σ' H' => ∃ m', m' < m ∧ ∃ δ', W m' δ' ∧ Rp X.K f H' σ' δ' (tv T), fun σ' H' ⟨m', h1, h2⟩ => ⟨m', h1, h2⟩, δ3, _, k.1 rfl, T, R3, fun δ' σ' H' ⟨m', h1, h2⟩ R' => ⟨m', h1, δ', h2, R'⟩, r, n, fun δ' σ' H' ⟨m', h1, h2⟩ R' => ⟨m', h1, δ', h2, R'⟩⟩
    | false =>
      rw [if_neg Bool.false_ne_true]
      exact n δ3 σ2 H3 (k.2 rfl) R3
end
end Dl

namespace Dl
open PySem L2

/-! ### comprehensions -/
/-- the block's scope, the names of the def that it uses told anew -/
def rl (scope sc : Scope) : Scope :=
  { scope with names := scope.names.map fun (n, k) => if (k == .free && sc.kind == .function && sc.names.lookup n == some .cell) then (n, .cell) else (n, k) }
/-- a comprehension's block in X -/
structure Blk (X X' : Cx) : Prop where
  prog : X'.prog = X.prog
  w : X'.w = X.w
  K : X'.K = X.K
  mg : X'.mg = X.mg
  base : X'.base = X.base
  A : X'.A = X.A
  fnb : ∀ x, X'.env.scope.names.lookup x = some .cell → X.env.scope.names.lookup x ≠ some .cell → X'.fn x = true
def clr (δ : Env) : List Nat → Env
  | [] => δ
  | v :: vs => (clr δ vs).set v none
section
variable {X X' : Cx} {f : Fm} {δ : Env} {e a b c tg iter elt : Expr} {es rest tgs ifs : List Expr} {st : Stmt} {sts : List Stmt} {pos p2 : Pos} {Ψ : Rs → Env → Prop} {Φ : Ph}
variable {N : List Str} {sc scope : Scope} {Pr : Program} {w : World} {K : PySem.W.Frag} {mg : Str → Option Value} {base : Heap}
theorem Blk.jn (b : Blk X X') (J : Jn X Pr w K mg base) : Jn X' Pr w K mg base := ⟨b.prog.trans J.prog, b.w.trans J.w, b.K.trans J.K, b.mg.trans J.mg, b.base.trans J.base⟩
theorem Blk.room {k : Nat} (b : Blk X X') (h : Room k X.A) : Room k X'.A := by
  rw [b.A]
  exact h
structure DTs (X : Cx) (f : Fm) (δ : Env) (ifs : List Expr) (Θ : Bool → Env → Prop) : Prop where
  h : PTs X ifs (tT X.K f δ Θ)
theorem dts_nil {Θ : Bool → Env → Prop} (k : Θ true δ) : DTs X f δ [] Θ := ⟨⟨fun pins s σ H Q I ⟨T, R, q⟩ => pts_nil.run pins s σ H Q I (q true δ H k R)⟩⟩
theorem dts_one {Θ : Bool → Env → Prop} (h : DT X f δ c Θ) : DTs X f δ [c] Θ := ⟨pts_one h.h⟩
theorem clr_len : ∀ {vs : List Nat}, (clr δ vs).length = δ.length
  | [] => rfl
  | v :: vs => by unfold clr; rw [List.length_set]; exact clr_len
theorem clr_get {j : Nat} : ∀ {vs : List Nat}, (clr δ vs)[j]? = if j ∈ vs ∧ j < δ.length then some none else δ[j]?
  | [] => by simp [clr]
  | v :: vs => by
    unfold clr
    rw [List.getElem?_set, clr_get (vs := vs), clr_len]
    by_cases h : v = j
    · subst h
      by_cases h2 : v < δ.length
      · simp [h2]
      · simp [h2]
    · have : ¬ j = v := fun q => h q.symm
      simp [h, this]
theorem wipe_get {σ : St} {j : Nat} : ∀ {vs : List Nat}, (wipe σ vs)[j]? = if j ∈ vs ∧ j < σ.length then some none else σ[j]?
  | [] => by simp [wipe]
  | v :: vs => by
    unfold wipe
    rw [List.getElem?_set, wipe_get (vs := vs), wipe_length]
    by_cases h : v = j
    · subst h
      by_cases h2 : v < σ.length
      · simp [h2]
      · simp [h2]
    · have : ¬ j = v := fun q => h q.symm
      simp [h, this]
theorem wipe_eq {σ σ' : St} {vs : List Nat} (hl : σ'.length = σ.length) (h : ∀ j : Nat, j ∉ vs → σ'[j]? = σ[j]?) : wipe σ' vs = wipe σ vs := by
  apply List.ext_getElem?
  intro j
  rw [wipe_get, wipe_get, hl]
  by_cases hj : j ∈ vs
  · by_cases h2 : j < σ.length
    · simp [hj, h2]
    · rw [if_neg (by simp [h2]), if_neg (by simp [h2]), List.getElem?_eq_none (by omega), List.getElem?_eq_none (by omega)]
  · simp [hj, h j hj]
theorem Rp.forgetAll {σ : St} {H : Hp} {T : List (V × Rs)} (R : Rp K f H σ δ T) : ∀ (vs : List Nat), Rp K f H σ (clr δ vs) T
  | [] => R
  | v :: vs => (R.forgetAll vs).forget
/-- forgotten slots may hold anything -/
theorem Rp.cleared {σ σ' : St} {H : Hp} {T : List (V × D)} {vs : List Nat} (R0 : Rp K f H σ δ (tv T)) (hl : σ'.length = σ.length) (h : ∀ j : Nat, j ∉ vs → σ'[j]? = σ[j]?) (hp : ∀ j ∈ vs, Unp f j) : Rp K f H σ' (clr δ vs) (tv T) := by
  have R := R0.forgetAll vs
  obtain ⟨F, s, k⟩ := R.own
  have ec : cells σ' (clr δ vs) = cells σ (clr δ vs) := by
    unfold cells
    apply List.ext_getElem?
    intro j
    rw [List.getElem?_zipWith, List.getElem?_zipWith]
    by_cases hj : j ∈ vs
    · by_cases h2 : j < δ.length
      · have e1 : (clr δ vs)[j]? = some none := by rw [clr_get, if_pos ⟨hj, h2⟩]
        have l1 := R0.len
        rw [e1, List.getElem?_eq_getElem (l := σ) (by omega), List.getElem?_eq_getElem (l := σ') (by omega)]
        have : ∀ x : Option V, cl x none = (.non, .non) := fun x => by cases x <;> rfl
        simp only [this]
      · have e1 : (clr δ vs)[j]? = none := List.getElem?_eq_none (by rw [clr_len]; omega)
        have l1 := R0.len
        rw [e1, List.getElem?_eq_none (l := σ) (by omega), List.getElem?_eq_none (l := σ') (by omega)]
    · rw [h j hj]
  refine ⟨by rw [hl]; exact R.len, fun j d e => ?_, ⟨F, by rw [ec]; exact s, k⟩, fun c m j e => absurd e (tv_ns c m j), R.fr, R.tx, fun i m => ?_⟩
  · by_cases hj : j ∈ vs
    · rw [clr_get] at e
      by_cases h2 : j < δ.length
      · rw [if_pos ⟨hj, h2⟩] at e; cases e
      · rw [if_neg (by simp [h2]), List.getElem?_eq_none (by omega)] at e; cases e
    · obtain ⟨v, q⟩ := R.has j d e
      exact ⟨v, by rw [h j hj]; exact q⟩
  · rw [h i fun z => hp i z i m rfl]
    exact R.pin i m
/-- slot references ahead of a block: their values alone -/
def plain : List (V × Rs) → List (V × D)
  | [] => []
  | (v, .v d) :: T => (v, d) :: plain T
  | (v, .s _) :: T => (v, .opq v) :: plain T
  | (v, .p w _ _) :: T => (v, .opq w) :: plain T
theorem plain_tc : ∀ {T : List (V × Rs)}, (tv (plain T)).map tc = T.map tc
  | [] => rfl
  | (v, .v d) :: T => congrArg ((v, d) :: ·) (plain_tc (T := T))
  | (v, .s i) :: T => congrArg ((v, D.opq v) :: ·) (plain_tc (T := T))
  | (v, .p w _ _) :: T => congrArg ((v, D.opq w) :: ·) (plain_tc (T := T))
theorem Rp.toPlain {σ : St} {H : Hp} {T : List (V × Rs)} (R : Rp K f H σ δ T) : Rp K f H σ δ (tv (plain T)) := by
  obtain ⟨F, s, k⟩ := R.own
  exact ⟨R.len, R.has, ⟨F, by rw [plain_tc]; exact s, k⟩, fun c m j e => absurd e (tv_ns c m j), R.fr, R.tx, R.pin⟩
theorem Rp.ofPlain {σ : St} {H H0 : Hp} {T : List (V × Rs)} {c : V × D} {δ0 : Env} (R : Rp K f H σ δ (tv (c :: plain T))) (R0 : Rp K f H0 σ δ0 T) : Rp K f H σ δ ((c.1, .v c.2) :: T) := by
  obtain ⟨F, s, k⟩ := R.own
  have s' : Sep (OwnE K H) (c :: ((tv (plain T)).map tc ++ cells σ δ)) F := s
  rw [plain_tc] at s'
  refine ⟨R.len, R.has, ⟨F, s', k⟩, fun c' m j e => ?_, R.fr, R.tx, R.pin⟩
  rcases List.mem_cons.mp m with m | m
  · rw [m] at e; cases e
  · exact R0.tmp c' m j e
theorem plain_zip {T0 : List (V × Rs)} : ∀ {vs : List V} {es : List D}, plain (vs.zip (es.map Rs.v) ++ T0) = vs.zip es ++ plain T0
  | [], _ => rfl
  | _ :: _, [] => rfl
  | v :: vs, e :: es => congrArg ((v, e) :: ·) (plain_zip (vs := vs) (es := es))
theorem Rp.unwipe {σ : St} {H : Hp} {T : List (V × D)} {vs : List Nat} (R : Rp K f H (wipe σ vs) δ (tv T)) (hp : ∀ j ∈ vs, Unp f j) : Rp K f H σ δ (tv T) := by
  have nn : ∀ j ∈ vs, ∀ d, δ[j]? ≠ some (some d) := fun j hj d e => by
    obtain ⟨v, q⟩ := R.has j d e
    rw [wipe_get] at q
    have hl := (List.getElem?_eq_some_iff.mp e).1
    rw [if_pos ⟨hj, by have := R.len; rw [wipe_length] at this; omega⟩] at q
    cases q
  have hl : σ.length = δ.length := by have := R.len; rw [wipe_length] at this; exact this
  obtain ⟨F, s, k⟩ := R.own
  have ec : cells σ δ = cells (wipe σ vs) δ := by
    unfold cells
    apply List.ext_getElem?
    intro j
    rw [List.getElem?_zipWith, List.getElem?_zipWith, wipe_get]
    by_cases hj : j ∈ vs ∧ j < σ.length
    · rw [if_pos hj, List.getElem?_eq_getElem (l := σ) hj.2]
      cases q : δ[j]? with
      | none => rfl
      | some y =>
        cases y with
        | none => cases σ[j] <;> rfl
        | some d => exact absurd q (nn j hj.1 d)
    · rw [if_neg hj]
  refine ⟨hl, fun j d e => ?_, ⟨F, by rw [ec]; exact s, k⟩, fun c m j e => absurd e (tv_ns c m j), R.fr, R.tx, fun i m => ?_⟩
  · obtain ⟨v, q⟩ := R.has j d e
    rw [wipe_get] at q
    split at q
    · cases q
    · exact ⟨v, q⟩
  · have q := R.pin i m
    rw [wipe_get] at q
    split at q
    · cases q
    · exact q
theorem bd_blk {s : Shared} {H : Hp} {C : Addr} {cl : List (Str × Addr)} {fp : List Addr} (B : Bd X N sc) : Bd (X.blk s H scope (compEnvC scope cl C X.env) fp) N (rl scope sc) :=
  ⟨B.eN, by rw [← B.eS]; rfl, B.calm, B.nd, PassesOwn.never⟩
theorem rl_cell {scope sc : Scope} {x : Str} (h : (rl scope sc).names.lookup x = some .cell) (h0 : sc.names.lookup x ≠ some .cell) : scope.names.lookup x = some .cell := by
  unfold rl at h
  simp only at h
  generalize scope.names = l at *
  induction l with
  | nil => cases h
  | cons a l ih =>
    obtain ⟨n, k⟩ := a
    rw [List.map_cons] at h
    rw [List.lookup_cons] at h ⊢
    by_cases e : x = n
    · subst e
      by_cases c : (k == .free && sc.kind == .function && sc.names.lookup x == some .cell) = true
      · simp only [Bool.and_eq_true, beq_iff_eq] at c
        exact absurd c.2 h0
      · simp only [c, Bool.false_eq_true, if_false] at h
        simpa using h
    · have e2 : (x == n) = false := by simpa using e
      by_cases c : (k == .free && sc.kind == .function && sc.names.lookup n == some .cell) = true
      · simp only [c, if_true, e2] at h
        rw [e2]
        exact ih h
      · simp only [c, Bool.false_eq_true, if_false, e2] at h
        rw [e2]
        exact ih h
theorem blk_ok {s : Shared} {H : Hp} {C : Addr} {cl : List (Str × Addr)} {fp : List Addr} : Blk X (X.blk s H scope (compEnvC scope cl C X.env) fp) := ⟨rfl, rfl, rfl, rfl, rfl, rfl, fun x h h0 => by
  have h : (rl scope X.env.scope).names.lookup x = some .cell := h
  show (scope.names.lookup x == some .cell) = true
  rw [rl_cell h h0]
  rfl⟩
/-- whatever block of X -/
abbrev InB (X : Cx) (N : List Str) (sc : Scope) (P : Cx → Prop) : Prop := ∀ X', Blk X X' → Bd X' N sc → P X'
/-- what a turn of a comprehension must do; P: what follows a kept item, or a turn without one -/
def Turn1 (X : Cx) (N : List Str) (sc : Scope) (f : Fm) (tg elt : Expr) (ifs : List Expr) (own : List Nat) (d : D) (δ : Env) (P : Option D → Env → Prop) : Prop :=
  InB X N sc fun X' => DG X' f δ tg d own fun δ3 => InB X N sc fun X' => DTs X' f δ3 ifs fun t δ4 =>
    (t = true → InB X N sc fun X' => DE X' f δ4 elt fun r δ5 => ∃ e δ6, Take δ5 r e δ6 ∧ P (some e) (clr δ6 own)) ∧ (t = false → P none (clr δ4 own))
def addO (acc : List D) : Option D → List D
  | some e => acc ++ [e]
  | none => acc
/-- what holds in every block -/
def bG (X : Cx) (N : List Str) (sc : Scope) (f : Fm) (tg : Expr) : TG := fun v σ H Q => ∃ δ d sl Ψ, (InB X N sc fun X' => DG X' f δ tg d sl Ψ) ∧ tG X.K f δ d sl Ψ v σ H Q
def bT (X : Cx) (N : List Str) (sc : Scope) (f : Fm) (ifs : List Expr) : TT := fun σ H Q => ∃ δ Ψ, (InB X N sc fun X' => DTs X' f δ ifs Ψ) ∧ tT X.K f δ Ψ σ H Q
def bE (X : Cx) (N : List Str) (sc : Scope) (f : Fm) (elt : Expr) : TE := fun σ H Q => ∃ δ Ψ, (InB X N sc fun X' => DE X' f δ elt Ψ) ∧ tE X.K f δ Ψ σ H Q
theorem bG_ok (B : Bd X N sc) {s : Shared} {H : Hp} {C : Addr} {cl : List (Str × Addr)} {fp : List Addr} : PG (X.blk s H scope (compEnvC scope cl C X.env) fp) tg (bG X N (rl scope sc) f tg) := ⟨fun pins s' σ H v u Q I r ⟨_, _, _, _, k, q⟩ => (k _ blk_ok (bd_blk B)).h.run pins s' σ H v u Q I r q⟩
theorem bT_ok (B : Bd X N sc) {s : Shared} {H : Hp} {C : Addr} {cl : List (Str × Addr)} {fp : List Addr} : PTs (X.blk s H scope (compEnvC scope cl C X.env) fp) ifs (bT X N (rl scope sc) f ifs) := ⟨fun pins s' σ H Q I ⟨_, _, k, q⟩ => (k _ blk_ok (bd_blk B)).h.run pins s' σ H Q I q⟩
theorem bE_ok (B : Bd X N sc) {s : Shared} {H : Hp} {C : Addr} {cl : List (Str × Addr)} {fp : List Addr} : PE (X.blk s H scope (compEnvC scope cl C X.env) fp) elt (bE X N (rl scope sc) f elt) := ⟨fun pins s' σ H Q I ⟨_, _, k, q⟩ => (k _ blk_ok (bd_blk B)).h.run pins s' σ H Q I q⟩
/-- what a comprehension over ds does -/
def LcOk (X : Cx) (N : List Str) (sc : Scope) (f : Fm) (tg elt : Expr) (ifs : List Expr) (own : List Nat) (Ψ : Rs → Env → Prop) (rs : List Rs) (ds : List D) (δ1 : Env) : Prop :=
  slots rs = [] ∧ ds.length < sizeLine ∧ ∃ I : Nat → List D → Env → Prop, I 0 [] (clr δ1 own) ∧
      (∀ (i : Nat) (d : D) acc δ2, ds[i]? = some d → acc.length ≤ i → I i acc δ2 → Turn1 X N sc f tg elt ifs own d δ2 fun o δ3 => I (i + 1) (addO acc o) δ3) ∧ ∀ acc δ2, I ds.length acc δ2 → Ψ (.v (.lst acc)) δ2
theorem lc_read {own : List Nat} (hp : ∀ j ∈ own, Unp f j) : ∀ σ H Q, tE X.K f δ Ψ σ H Q → tLc (tI X.K f δ (LcOk X N (rl scope sc) f tg elt ifs own Ψ)) (bG X N (rl scope sc) f tg) (bT X N (rl scope sc) f ifs) (bE X N (rl scope sc) f elt) own σ H Q := by
  refine fun σ H Q ⟨T0, R0, q⟩ => ⟨T0, R0, fun rs ds es δ1 vs H1 J ⟨hsl, hsz, I, i0, st, en⟩ hl he him R1 gv Dl hD => ?_⟩
  have erv := rs_v hsl he
  subst erv
  have R1p : Rp X.K f H1 σ δ1 (tv (vs.zip es ++ plain T0)) := by
    have := R1.toPlain
    rw [plain_zip] at this
    exact this
  have hwc : ∀ {σ : St}, (wipe σ own).length = σ.length := wipe_length _ _
  have hwg : ∀ {σ : St} (j : Nat), j ∉ own → (wipe σ own)[j]? = σ[j]? := fun j hj => by rw [wipe_get]; simp [hj]
  have src : ∀ {H2 : Hp} {σ2 : St} {δ2 : Env} {c0 : V × D}, Rp X.K f H2 σ2 δ2 (tv (c0 :: (vs.zip es ++ plain T0))) → ∀ c ∈ vs.zip es, ∃ F, OwnE X.K H2 c.1 c.2 F := fun R2 c m => R2.res (r := .v c.2) (List.mem_map.mpr ⟨c, List.mem_cons_of_mem _ (List.mem_append_left _ m), rfl⟩) rfl
  -- the list under work at Dl, the sources, the rest
  refine ⟨fun i m H2 => m = ds.length - i ∧ i ≤ ds.length ∧ ∃ acc δ2, acc.length ≤ i ∧ I i acc δ2 ∧ Rp X.K f H2 (wipe σ own) δ2 (tv ((.ref Dl, .lst acc) :: (vs.zip es ++ plain T0))),
    ⟨ds.length, by simp, Nat.zero_le _, [], _, Nat.le_refl _, i0, ?_⟩, ?_⟩
  · have R2 : Rp X.K f (upd H1 Dl (.lst [])) σ δ1 (tv ((.ref Dl, .lst []) :: (vs.zip es ++ plain T0))) := Rp.newI (vs := []) R1p hD (show upd H1 Dl _ Dl = _ from upd_same) rfl fun c m => nomatch m
    exact R2.cleared hwc (fun j hj => hwg j hj) hp
  · rintro i m H2 ⟨rfl, hi, acc, δ2, hacc, k2, R2⟩
    obtain ⟨g1, g2⟩ := gv H2 (src R2)
    by_cases hlt : i < ds.length
    · have hd : ds[i]? = some ds[i] := List.getElem?_eq_getElem hlt
      obtain ⟨gg, gy⟩ := g2 i _ hd
      refine .inr ⟨gg, fun H' => ∃ acc' δ', acc'.length ≤ i + 1 ∧ I (i + 1) acc' δ' ∧ Rp X.K f H' (wipe σ own) δ' (tv ((.ref Dl, .lst acc') :: (vs.zip es ++ plain T0))), fun H' ⟨acc', δ', h1, k', R'⟩ => ⟨ds.length - (i + 1), by omega, rfl, hlt, acc', δ', h1, k', R'⟩, fun x H' y => ?_⟩
      obtain ⟨sm, F, o⟩ := gy x H' y
      have tn := st i _ acc δ2 hd hacc k2
      unfold Turn1 at tn
      refine ⟨δ2, _, own, _, tn, (.ref Dl, .lst acc) :: (vs.zip es ++ plain T0), (R2.same sm).pushI o (him _ (List.getElem_mem _)), fun δ3 σ3 H3 k3 l3 s3 R3 => ⟨?_, δ3, _, k3, _, R3, fun t δ4 H4 k4 R4 => ?_⟩⟩
      · have w0 : wipe (wipe σ own) own = wipe σ own := wipe_eq hwc fun j hj => hwg j hj
        rw [wipe_eq l3 s3, w0]
      · have back : ∀ {H5 : Hp} {δ5 : Env} {acc' : List D}, Rp X.K f H5 σ3 δ5 (tv ((.ref Dl, .lst acc') :: (vs.zip es ++ plain T0))) → Rp X.K f H5 (wipe σ own) (clr δ5 own) (tv ((.ref Dl, .lst acc') :: (vs.zip es ++ plain T0))) := fun R5 => R5.cleared l3.symm (fun j hj => (s3 j hj).symm) hp
        cases t with
        | true =>
          show bE X N (rl scope sc) f elt σ3 H4 _
          refine ⟨δ4, _, k4.1 rfl, _, R4, fun r δ5 v5 H5 ⟨e, δ6, tk, k6⟩ R5 => ?_⟩
          have R6 := tk.rp R5
          have R7 : Rp X.K f H5 σ3 δ6 ((.ref Dl, .v (.lst acc)) :: ([(v5, Rs.v e)] ++ tv (vs.zip es ++ plain T0))) := R6.perm (List.Perm.swap _ _ _)
          obtain ⟨ws, n1, l1, ch⟩ := R7.change rfl
          have l1' : ws.length = acc.length := l1
          refine ⟨ws, n1, by omega, addO acc (some e), _, ?_, k6, ?_⟩
          · show (acc ++ [e]).length ≤ i + 1
            simp; exact hacc
          · refine back (ch _ (.lst (acc ++ [e])) (ws ++ [v5]) (show upd H5 Dl _ Dl = _ from upd_same) rfl (by simp [kids, l1']) (fun F s => ?_) fun o u z => by rw [show H5 Dl = some (.lst ws) from n1] at z; cases z)
            show Sep _ ((ws ++ [v5]).zip (acc ++ [e])) F
            rw [zip_app l1']
            exact s
        | false =>
          show ∃ acc' δ', _
          exact ⟨acc, _, by omega, k4.2 rfl, back R4⟩
    · have e : i = ds.length := by omega
      subst e
      refine .inl ⟨g1, ?_⟩
      -- the sources dropped, the slots' references again
      have R3 : Rp X.K f H2 (wipe σ own) δ2 (tv ((.ref Dl, .lst acc) :: plain T0)) := by
        have drop : ∀ {cs : List (V × D)} {c : V × D}, Rp X.K f H2 (wipe σ own) δ2 (tv (c :: (cs ++ plain T0))) → Rp X.K f H2 (wipe σ own) δ2 (tv (c :: plain T0)) := by
          intro cs
          induction cs with
          | nil => exact fun h => h
          | cons c' cs ih => exact fun h => ih ((h.perm (List.Perm.swap _ _ _)).tail)
        exact drop R2
      exact q _ _ _ _ (en acc δ2 k2) (Rp.ofPlain (R3.unwipe hp) R0)
/-- [elt for tg in iter if ..] -/
theorem de_lc {own : List (Str × Nat)} (B : Bd X N sc) (ok : BlkOk N sc scope own) (hp : ∀ j ∈ own.map (·.2), Unp f j)
    (h : DI X f δ tg iter (LcOk X N (rl scope sc) f tg elt ifs (own.map (·.2)) Ψ)) (hs : ∀ x, foldedSetIterable iter X.env x = pure x := by intro _; rfl) : DE X f δ (.ListComp elt [⟨tg, iter, ifs, 0⟩] scope pos) Ψ :=
  DE.of (pe_lc (own := own) B.calm B.ndX h.h (by rw [B.eN, B.eS]; exact ok) (fun _ _ _ _ _ => bG_ok B) (fun _ _ _ _ _ => bT_ok B) (fun _ _ _ _ _ => bE_ok B) hs) (lc_read hp)
/-- y = [..] on one line -/
theorem ds_setLc {own : List (Str × Nat)} {i : Nat} {y : Str} {py spos : Pos} (B : Bd X N sc) (hi : Sl N i y) (hy : Nm sc y .local) (hu : Unp f i) (hsw : swapsWith (.ListComp elt [⟨tg, iter, ifs, 0⟩] scope pos) (some (.Name y py)) spos.line X.env = pure true) (ok : BlkOk N sc scope own) (hp : ∀ j ∈ own.map (·.2), Unp f j)
    (h : DI X f δ tg iter (LcOk X N (rl scope sc) f tg elt ifs (own.map (·.2)) fun r δ1 => ∃ d δ2, Take δ1 r d δ2 ∧ Φ.nx (δ2.set i (some d)))) (hs : ∀ x, foldedSetIterable iter X.env x = pure x := by intro _; rfl) : DS X f δ (.Assign [.Name y py] (.ListComp elt [⟨tg, iter, ifs, 0⟩] scope pos) spos) Φ :=
  DS.of (ps_setLc (own := own) B.calm B.ndX (B.ix hi) (by rw [B.eS]; exact hy) hsw h.h (by rw [B.eN, B.eS]; exact ok) (fun _ _ _ _ _ => bG_ok B) (fun _ _ _ _ _ => bT_ok B) (fun _ _ _ _ _ => bE_ok B) hs) fun E σ H ⟨T, R, n, r, b, c⟩ =>
    lc_read hp σ H _ ⟨tv T, R, fun r δ1 v H1 ⟨d, δ2, t, k⟩ R1 => n _ _ _ k ((t.rp R1).store hu tv_ns)⟩
end
end Dl

namespace Dl
open PySem L2

/-! ### displays -/
inductive Takes : Env → List Rs → List D → Env → Prop
  | nil {δ : Env} : Takes δ [] [] δ
  | cons {δ δ1 δ2 : Env} {r : Rs} {d : D} {rs : List Rs} {ds : List D} : Take δ r d δ1 → Takes δ1 rs ds δ2 → Takes δ (r :: rs) (d :: ds) δ2
section
variable {K : PySem.W.Frag} {f : Fm} {H : Hp} {σ : St} {T : List (V × Rs)}
theorem Takes.len {δ δ' : Env} {rs : List Rs} {ds : List D} (t : Takes δ rs ds δ') : rs.length = ds.length := by
  induction t with
  | nil => rfl
  | cons _ _ ih => simp [ih]
theorem Takes.rp {δ δ' : Env} {rs : List Rs} {ds : List D} (t : Takes δ rs ds δ') : ∀ {vs : List V} {T : List (V × Rs)}, vs.length = rs.length → Rp K f H σ δ (vs.zip rs ++ T) → Rp K f H σ δ' (vs.zip (ds.map Rs.v) ++ T) := by
  induction t with
  | nil =>
    intro vs T hl R
    cases vs with
    | nil => exact R
    | cons _ _ => cases hl
  | cons t1 _ ih =>
    intro vs T hl R
    cases vs with
    | nil => cases hl
    | cons v vs =>
      have R1 := t1.rp (T := vs.zip _ ++ T) R
      have R2 := ih (T := (v, _) :: T) (by simpa using hl) (R1.perm List.perm_middle.symm)
      exact R2.perm List.perm_middle
theorem zip_tc : ∀ (vs : List V) (ds : List D), (vs.zip (ds.map Rs.v)).map tc = vs.zip ds
  | [], _ => rfl
  | _ :: _, [] => rfl
  | v :: vs, d :: ds => congrArg ((v, d) :: ·) (zip_tc vs ds)
end
section
variable {X : Cx} {f : Fm} {δ : Env} {e a b c : Expr} {es rest : List Expr} {st : Stmt} {sts : List Stmt} {pos p2 : Pos} {Ψ : Rs → Env → Prop} {Θ : Bool → Env → Prop} {Λ : List Rs → Env → Prop} {Φ : Ph}
variable {N : List Str} {sc : Scope} {Pr : Program} {w : World} {K : PySem.W.Frag} {mg : Str → Option Value} {base : Heap}
theorem de_tup {x1} (h : DA X f δ es fun rs δ1 => ∃ ds δ2, Takes δ1 rs ds δ2 ∧ ds.length ≤ sizeLine ∧ Ψ (.v (.tup ds)) δ2) : DE X f δ (.Tuple es x1 pos) Ψ :=
  DE.of (pe_tup h.h) fun σ H Q ⟨T, R, q⟩ => ⟨T, R, fun rs δ1 vs H1 ⟨ds, δ2, t, hz, k⟩ hl R1 => ⟨by rw [hl, t.len]; exact hz, fun p hp => q _ _ _ _ k (Rp.node (cs := vs.zip (ds.map Rs.v)) (t.rp hl R1) hp (show SqT X.K (upd H1 p _) p vs from SqT.of upd_same) (hl.trans t.len) fun F s => by rw [zip_tc] at s; exact s)⟩⟩
theorem de_list (h : DA X f δ es fun rs δ1 => ∃ ds δ2, Takes δ1 rs ds δ2 ∧ ds.length ≤ sizeLine ∧ Ψ (.v (.lst ds)) δ2) : DE X f δ (.List es pos) Ψ :=
  DE.of (pe_lst h.h) fun σ H Q ⟨T, R, q⟩ => ⟨T, R, fun rs δ1 vs H1 ⟨ds, δ2, t, hz, k⟩ hl R1 => ⟨by rw [hl, t.len]; exact hz, fun p hp => q _ _ _ _ k (Rp.node (cs := vs.zip (ds.map Rs.v)) (t.rp hl R1) hp (show upd H1 p _ p = _ from upd_same) (hl.trans t.len) fun F s => by rw [zip_tc] at s; exact s)⟩⟩
/-! ### slices -/
def tO (K : PySem.W.Frag) (f : Fm) (δ : Env) (Ψ : Option Int → Env → Prop) : TO := fun σ H Q => ∃ T, Rp K f H σ δ T ∧ ∀ o δ' H', Ψ o δ' → Rp K f H' σ δ' T → Q o H'
structure DO (X : Cx) (f : Fm) (δ : Env) (e : Option Expr) (Ψ : Option Int → Env → Prop) : Prop where
  h : PO X e (tO X.K f δ Ψ)
def uO (X : Cx) (f : Fm) (e : Option Expr) : TO := fun σ H Q => ∃ δ Ψ, DO X f δ e Ψ ∧ tO X.K f δ Ψ σ H Q
theorem po_u {e : Option Expr} : PO X e (uO X f e) := ⟨fun pins s σ H Q I ⟨_, _, h, q⟩ => h.h.run pins s σ H Q I q⟩
theorem do_none {Ω : Option Int → Env → Prop} (k : Ω none δ) : DO X f δ none Ω := ⟨⟨fun pins s σ H Q I ⟨T, R, q⟩ => po_none.run pins s σ H Q I (q none δ H k R)⟩⟩
theorem do_some {Ω : Option Int → Env → Prop} (h : DE X f δ e fun r δ1 => ∃ i, r = .v (.int i) ∧ Ω (some i) δ1) : DO X f δ (some e) Ω := ⟨⟨fun pins s σ H Q I ⟨T, R, q⟩ => (po_some h.h).run pins s σ H Q I ⟨T, R, fun r δ1 v H1 ⟨i, e, k⟩ R1 => by
  subst e
  cases R1.vint (v := v) (i := i) (by simp)
  exact ⟨i, rfl, q _ _ _ k R1.tail⟩⟩⟩⟩
def cutA {α : Type} (xs : List α) (lo hi : Option Int) : List α := (xs.drop (HT.sIx xs.length 0 lo)).take (HT.sIx xs.length xs.length hi - HT.sIx xs.length 0 lo)
theorem zip_drop {vs : List V} {ds : List D} : ∀ {vs : List V} {ds : List D} {n : Nat}, (vs.drop n).zip (ds.drop n) = (vs.zip ds).drop n
  | vs, ds, 0 => rfl
  | [], ds, n + 1 => by simp
  | v :: vs, [], n + 1 => by simp
  | v :: vs, d :: ds, n + 1 => by
    show (vs.drop n).zip (ds.drop n) = (vs.zip ds).drop n
    exact zip_drop (vs := []) (ds := [])
theorem zip_take {vs : List V} {ds : List D} : ∀ {vs : List V} {ds : List D} {n : Nat}, (vs.take n).zip (ds.take n) = (vs.zip ds).take n
  | vs, ds, 0 => rfl
  | [], ds, n + 1 => by simp
  | v :: vs, [], n + 1 => by simp
  | v :: vs, d :: ds, n + 1 => congrArg ((v, d) :: ·) (zip_take (vs := []) (ds := []))
theorem cutA_zip {vs : List V} {ds : List D} (h : vs.length = ds.length) (lo hi : Option Int) : (cutA vs lo hi).zip (cutA ds lo hi) = cutA (vs.zip ds) lo hi := by
  unfold cutA
  have e : (vs.zip ds).length = vs.length := by simp [h]
  rw [e, ← h]
  rw [zip_take (vs := []) (ds := []), zip_drop (vs := []) (ds := [])]
theorem cutA_len {α β : Type} {vs : List α} {ds : List β} (h : vs.length = ds.length) (lo hi : Option Int) : (cutA vs lo hi).length = (cutA ds lo hi).length := by
  unfold cutA
  simp [h]
theorem cutA_mem {α : Type} {xs : List α} {lo hi : Option Int} {x : α} (h : x ∈ cutA xs lo hi) : x ∈ xs := List.mem_of_mem_drop (List.mem_of_mem_take h)
theorem cutA_all {α : Type} {xs : List α} {lo hi : Option Int} (h : HT.sIx xs.length 0 lo = 0 ∧ HT.sIx xs.length xs.length hi = xs.length) : cutA xs lo hi = xs := by
  unfold cutA
  rw [h.1, h.2]
  simp
def rSlD (K : PySem.W.Frag) : V → Option Int → Option Int → Hp → VK → Prop := fun x lo hi H Q => (rSlL K x lo hi H Q ∨ rSlA K x lo hi H Q) ∨ rSlS x lo hi H Q
theorem sl_D : SlR X (rSlD X.K) := SlR.or (SlR.or sl_list sl_tupA) sl_str
inductive SlS (δ : Env) : Rs → Option Int → Option Int → (D → Prop) → Prop
  | lst {r : Rs} {ds : List D} {l u : Option Int} {P : D → Prop} : rsv δ r = some (.lst ds) → (∀ x ∈ ds, Imm x) → P (.lst (cutA ds l u)) → SlS δ r l u P
  | fz {r : Rs} {ds : List D} {l u : Option Int} {P : D → Prop} : rsv δ r = some (.fz ds) → (∀ x ∈ ds, Imm x) → P (.lst (cutA ds l u)) → SlS δ r l u P
  | tup {r : Rs} {ds : List D} {l u : Option Int} {P : D → Prop} : rsv δ r = some (.tup ds) → (∀ x ∈ ds, Imm x) → P (.tup (cutA ds l u)) → SlS δ r l u P
  | str {z : Str} {l u : Option Int} {P : D → Prop} : z.length ≤ sizeLine → P (.str (cutS z l u)) → SlS δ (.v (.str z)) l u P
theorem de_slice {lo hi : Option Expr} (h : DE X f δ e fun r δ1 => DO X f δ1 lo fun l δ2 => DO X f δ2 hi fun u δ3 => SlS δ3 r l u fun d => Ψ (.v d) δ3) : DE X f δ (.Subscript e (.Slice lo hi none p2) pos) Ψ :=
  DE.of (pe_slice sl_D h.h (po_u (f := f)) (po_u (f := f))) fun σ H Q ⟨T, R, q⟩ => ⟨T, R, fun r δ1 v H1 k1 R1 => ⟨δ1, _, k1, _, R1, fun l δ2 H2 k2 R2 => ⟨δ2, _, k2, _, R2, fun u δ3 H3 k3 R3 => by
    have lstcase : ∀ {d : D} {ds : List D} {p : Addr} {vs : List V} {F : Fp}, SqL X.K H3 p vs → vs.length = ds.length → Sep (OwnE X.K H3) (vs.zip ds) F → (∀ x ∈ ds, Imm x) → Ψ (.v (.lst (cutA ds l u))) δ3 → ∀ p', H3 p' = none → Q (.ref p') (upd H3 p' (.lst (cutV vs l u))) := by
      intro d ds p vs F hs hl s hi k p' hp
      refine q _ _ _ _ k (R3.tail.newI hp (show upd H3 p' _ p' = _ from upd_same) (cutA_len hl l u) fun c m => ?_)
      have m' : c ∈ (cutA vs l u).zip (cutA ds l u) := m
      rw [cutA_zip hl] at m'
      exact sep_imm s hi c (cutA_mem m')
    cases k3 with
    | @lst r ds _ _ _ h1 h2 k =>
      obtain ⟨F, o⟩ := R3.res (v := v) (r := r) (by simp) h1
      obtain ⟨p, vs, rfl, e1, l1, F1, s1⟩ := own_lst o
      exact .inl (.inl ⟨p, vs, rfl, SqL.of e1, lstcase (d := .non) (SqL.of e1) l1 s1 h2 k⟩)
    | @fz r ds _ _ _ h1 h2 k =>
      obtain ⟨F, o⟩ := R3.res (v := v) (r := r) (by simp) h1
      obtain ⟨p, vs, rfl, e1, l1, F1, s1⟩ := own_fz o
      exact .inl (.inl ⟨p, vs, rfl, e1, lstcase (d := .non) e1 l1 s1 h2 k⟩)
    | @tup r ds _ _ _ h1 h2 k =>
      obtain ⟨F, o⟩ := R3.res (v := v) (r := r) (by simp) h1
      have im : Imm (.tup ds) := imm_tup h2
      obtain ⟨p, vs, rfl, e1, l1, F1, s1⟩ := own_tup o
      refine .inl (.inr ⟨p, vs, rfl, e1, fun hw => ?_, fun hw p' hp => ?_⟩)
      · rw [l1] at hw
        rw [cutA_all hw] at k
        exact q _ _ _ _ k (R3.tail.pushI o im)
      · refine q _ _ _ _ k (R3.tail.newI hp (show SqT X.K (upd H3 p' _) p' _ from SqT.of upd_same) (cutA_len l1 l u) fun c m => ?_)
        have m' : c ∈ (cutA vs l u).zip (cutA ds l u) := m
        rw [cutA_zip l1] at m'
        exact sep_imm s1 h2 c (cutA_mem m')
    | @str z _ _ _ h1 k =>
      cases R3.vstr (v := v) (i := z) (by simp)
      exact .inr ⟨z, rfl, h1, q _ _ _ _ k (R3.tail.pushL rfl)⟩⟩⟩⟩

/-! ### methods of a list that stands in a slot (or is new) -/
def IsLst (δ : Env) (r : Rs) : Prop := ∃ ds, rsv δ r = some (.lst ds)
theorem tyV_lst {r : Rs} {σ : St} {H : Hp} {T : List (V × Rs)} {v : V} {f : Fm} (R : Rp K f H σ δ ((v, r) :: T)) (h : IsLst δ r) : tyV K "list" v H := by
  obtain ⟨ds, h⟩ := h
  obtain ⟨F, o⟩ := R.res (v := v) (r := r) (by simp) h
  obtain ⟨p, vs, rfl, e1, _⟩ := own_lst o
  exact .inl ⟨rfl, vs, SqL.of e1⟩
theorem Rp.pushAll {σ : St} {H : Hp} {f : Fm} {T : List (V × Rs)} : ∀ {vs : List V} {ds : List D}, Rp K f H σ δ T → (∀ c ∈ vs.zip ds, OwnE K H c.1 c.2 fun _ => False) → (∀ d ∈ ds, Imm d) → Rp K f H σ δ (vs.zip (ds.map Rs.v) ++ T)
  | [], _, R, _, _ => R
  | _ :: _, [], R, _, _ => R
  | v :: vs, d :: ds, R, h, i => (Rp.pushAll (vs := vs) (ds := ds) R (fun c m => h c (List.mem_cons_of_mem _ m)) fun d m => i d (List.mem_cons_of_mem _ m)).pushI (h (v, d) List.mem_cons_self) (i d List.mem_cons_self)
/-- a change of the list that stands in slot j, by what the heap does -/
theorem Rp.lstChange {σ : St} {H : Hp} {T : List (V × Rs)} {v : V} {f : Fm} {j : Nat} {ds : List D} {cs : List (V × Rs)} (R : Rp K f H σ δ (cs ++ T)) (e : σ[j]? = some (some v)) (h : δ[j]? = some (some (.lst ds))) :
    ∃ p vs, v = .ref p ∧ H p = some (.lst vs) ∧ vs.length = ds.length ∧ ∀ (vs' : List V) (ds' : List D), vs'.length = ds'.length → (∀ R F, Sep R (vs.zip ds ++ cs.map tc) F → Sep R (vs'.zip ds') F) →
      Rp K f (upd H p (.lst vs')) σ (δ.set j (some (.lst ds'))) T := by
  obtain ⟨w', ew, R5⟩ := R.out h
  rw [e] at ew
  cases ew
  obtain ⟨F, o⟩ := R5.res (v := v) (r := .v (.lst ds)) (by simp) rfl
  obtain ⟨l, vs, rfl, e1, l1, _⟩ := own_lst o
  obtain ⟨vs', n1, l2, ch⟩ := Rp.change (cs := cs) (T := T) R5 rfl
  have ev : vs' = vs := by
    have := (show H l = some (.lst vs') from n1).symm.trans e1
    cases this; rfl
  subst ev
  refine ⟨l, vs', rfl, e1, l1, fun ws es hl hk => ?_⟩
  have R6 := ch (.lst ws) (.lst es) ws (show upd H l _ l = _ from upd_same) rfl hl (fun F s => hk _ F s) (fun o u q => by rw [e1] at q; cases q)
  have R7 := R6.back (i := j) e
  rw [List.set_set] at R7
  exact R7
/-- xs.append(e) -/
inductive AppS (δ : Env) : Rs → D → (Env → Prop) → Prop
  | s {j : Nat} {ds : List D} {d : D} {P : Env → Prop} : δ[j]? = some (some (.lst ds)) → ds.length < sizeLine → P (δ.set j (some (.lst (ds ++ [d])))) → AppS δ (.s j) d P
/-- xs.extend(ys) -/
inductive ExtS (δ : Env) : Rs → Rs → (Env → Prop) → Prop
  | s {j : Nat} {ds es : List D} {r : Rs} {P : Env → Prop} : δ[j]? = some (some (.lst ds)) → rsv δ r = some (.lst es) → (∀ x ∈ es, Imm x) → ds.length + es.length ≤ sizeLine → P (δ.set j (some (.lst (ds ++ es)))) → ExtS δ (.s j) r P
theorem de_extend {o : Expr} {ap : Pos} (h : DE X f δ o fun ro δ1 => IsLst δ1 ro ∧ DA X f δ1 [e] fun rs δ2 => ∃ r, rs = [r] ∧ ExtS δ2 ro r fun δ4 => Ψ (.v .non) δ4)
    (hbase : attributeBase o "extend" X.env (eval o X.env) = eval o X.env := by rfl) (hline : (ap.endLine == pos.line) = true := by rfl) (hs : starEach [e] X.env = (false, eval e X.env) :: starEach [] X.env := by rfl)
    (hfew : ((backTo pos (starEach [e] X.env)).all (fun x => !x.1) && (backToKw pos (keywordEach [] X.env)).all (fun x => x.1.isSome) && decide (([e] : List Expr).length + ([] : List Keyword).length + (if ([] : List Keyword).isEmpty then 0 else 1) < 30)) = true := by rfl) :
    DE X f δ (.Call (.Attribute o "extend" ap) [e] [] pos) Ψ :=
  DE.of (pe_bm PySem.F.plainAttrs_list PySem.F.slot_list_extend PySem.F.type_list_extend mt_extend h.h (pa_u (f := f)) hbase hfew hline hs) fun σ H Q ⟨T, R, q⟩ => ⟨T, R, fun ro δ1 v H1 ⟨il, k1⟩ R1 => ⟨tyV_lst R1 il, δ1, _, k1, _, R1, fun rs δ2 vs H2 ⟨r, er, k3⟩ hl R2 => by
    obtain ⟨u, eu, ez⟩ := one_of (T := (v, ro) :: T) er hl
    subst eu
    rw [ez] at R2
    cases k3 with
    | @s j ds es _ _ hj hr him hz k =>
      have ev := R2.tmp (v, Rs.s j) (by simp) j rfl
      obtain ⟨F, o⟩ := R2.res (v := u) (r := r) (by simp) hr
      obtain ⟨b, zs, rfl, e2, l2, F2, s2⟩ := own_lst o
      have R3 := Rp.pushAll R2.tail2 (sep_imm s2 him) him
      obtain ⟨p, ws, rfl, e1, l1, ch⟩ := Rp.lstChange R3 ev hj
      refine ⟨p, b, ws, zs, rfl, rfl, e1, e2, by omega, q _ _ _ _ k (Rp.pushL (ch (ws ++ zs) (ds ++ es) (by simp [l1, l2]) fun R F s => ?_) rfl)⟩
      rw [zip_tc] at s
      rw [zip_app l1]
      exact s⟩⟩
end
end Dl

namespace Dl
open PySem L2

/-! ### data that == compares -/
mutual
def toPd : D → PyData
  | .non => .none
  | .bl b => .bool b
  | .int i => .int i
  | .str s => .str s
  | .tup xs => .tuple (toPds xs)
  | .tk xs => .tuple (toPds xs)
  | .lst xs => .list (toPds xs)
  | .fz xs => .list (toPds xs)
  | _ => .none
def toPds : List D → List PyData
  | [] => []
  | x :: xs => toPd x :: toPds xs
end
mutual
def pdOk : D → Bool
  | .non => true
  | .bl _ => true
  | .int _ => true
  | .str _ => true
  | .tup xs => pdOks xs
  | .tk xs => pdOks xs
  | .lst xs => pdOks xs
  | .fz xs => pdOks xs
  | _ => false
def pdOks : List D → Bool
  | [] => true
  | x :: xs => pdOk x && pdOks xs
end
section
variable {K : PySem.W.Frag} {H : Hp}
mutual
theorem own_dp : ∀ (d : D) (v : V) (F : Fp), pdOk d = true → OwnE K H v d F → Dp K H v (toPd d)
  | .non, v, F, _, o => by rw [o.of_non]; exact .non
  | .bl b, v, F, _, o => by rw [o.of_bl]; exact .bl b
  | .int i, v, F, _, o => by rw [o.of_int]; exact .int i
  | .str s, v, F, _, o => by rw [o.of_str]; exact .str s
  | .tup xs, v, F, h, o => by
    obtain ⟨a, vs, rfl, h1, h2, F', s⟩ := own_tup o
    exact .tup h1 (own_dps xs vs F' (by unfold pdOk at h; exact h) h2 s)
  | .tk xs, v, F, h, o => by
    obtain ⟨a, vs, rfl, h1, h2, F', s⟩ := own_tup o.tkt
    exact .tup h1 (own_dps xs vs F' (by unfold pdOk at h; exact h) h2 s)
  | .lst xs, v, F, h, o => by
    obtain ⟨a, vs, rfl, h1, h2, F', s⟩ := own_lst o
    exact .lst (SqL.of h1) (own_dps xs vs F' (by unfold pdOk at h; exact h) h2 s)
  | .fz xs, v, F, h, o => by
    obtain ⟨a, vs, rfl, h1, h2, F', s⟩ := own_fz o
    exact .lst h1 (own_dps xs vs F' (by unfold pdOk at h; exact h) h2 s)
  | .opq _, _, _, h, _ => by unfold pdOk at h; cases h
  | .dK _, _, _, h, _ => by unfold pdOk at h; cases h
  | .dT _, _, _, h, _ => by unfold pdOk at h; cases h
  | .lkK _, _, _, h, _ => by unfold pdOk at h; cases h
  | .lkT _ _ _, _, _, h, _ => by unfold pdOk at h; cases h
  | .obj _ _, _, _, h, _ => by unfold pdOk at h; cases h
  | .tg _ _, _, _, h, _ => by unfold pdOk at h; cases h
theorem own_dps : ∀ (xs : List D) (vs : List V) (F : Fp), pdOks xs = true → vs.length = xs.length → Sep (OwnE K H) (vs.zip xs) F → DpAll K H vs (toPds xs)
  | [], [], _, _, _, _ => by unfold toPds; exact .nil
  | x :: xs, v :: vs, F, h, hl, s => by
    unfold pdOks at h
    rw [Bool.and_eq_true] at h
    obtain ⟨F1, F2, s1, s2, _⟩ := s
    unfold toPds
    exact .cons (own_dp x v F1 h.1 s1) (own_dps xs vs F2 h.2 (by simpa using hl) s2)
  | [], _ :: _, _, _, hl, _ => nomatch hl
  | _ :: _, [], _, _, hl, _ => nomatch hl
end
end
/-- data that may be compared, at most n deep -/
structure Shp (n : Nat) (d : D) : Prop where
  ok : pdOk d = true
  lay : PyData.canLay0 (toPd d) = true
  dep : PyData.depth (toPd d) ≤ n
theorem Shp.mono {n m : Nat} {d : D} (h : Shp n d) (l : n ≤ m) : Shp m d := ⟨h.ok, h.lay, Nat.le_trans h.dep l⟩
theorem Shp.shaped {n : Nat} {d : D} (h : Shp n d) (l : n ≤ 64) : SeqAt.shaped (toPd d) = true := by
  unfold SeqAt.shaped
  rw [h.lay]
  exact decide_eq_true (Nat.le_trans h.dep l)
theorem shp_int {n : Nat} {i : Int} : Shp n (.int i) := ⟨rfl, rfl, Nat.zero_le _⟩
theorem shp_bl {n : Nat} {i : Bool} : Shp n (.bl i) := ⟨rfl, rfl, Nat.zero_le _⟩
theorem shp_non {n : Nat} : Shp n .non := ⟨rfl, rfl, Nat.zero_le _⟩
theorem shp_str {n : Nat} {s : Str} (h : PyData.canLay0 (.str s) = true) : Shp n (.str s) := ⟨rfl, h, Nat.zero_le _⟩
theorem shp_all {n : Nat} : ∀ {xs : List D}, (∀ x ∈ xs, Shp n x) → pdOks xs = true ∧ PyData.canLayAll0 (toPds xs) = true ∧ PyData.depthAll (toPds xs) ≤ n
  | [], _ => ⟨rfl, rfl, Nat.zero_le _⟩
  | x :: xs, h => by
    obtain ⟨h1, h2, h3⟩ := shp_all (xs := xs) fun y m => h y (List.mem_cons_of_mem _ m)
    have hx := h x List.mem_cons_self
    refine ⟨?_, ?_, ?_⟩
    · unfold pdOks; rw [hx.ok, h1]; rfl
    · unfold toPds PyData.canLayAll0; rw [hx.lay, h2]; rfl
    · unfold toPds PyData.depthAll; exact Nat.max_le.mpr ⟨hx.dep, h3⟩
theorem shp_tup {n : Nat} {xs : List D} (h : ∀ x ∈ xs, Shp n x) : Shp (n + 1) (.tup xs) := by
  obtain ⟨h1, h2, h3⟩ := shp_all h
  exact ⟨by unfold pdOk; exact h1, by unfold toPd PyData.canLay0; exact h2, by unfold toPd PyData.depth; omega⟩
theorem shp_lst {n : Nat} {xs : List D} (h : ∀ x ∈ xs, Shp n x) : Shp (n + 1) (.lst xs) := by
  obtain ⟨h1, h2, h3⟩ := shp_all h
  exact ⟨by unfold pdOk; exact h1, by unfold toPd PyData.canLay0; exact h2, by unfold toPd PyData.depth; omega⟩
/-- == of data -/
def eqD (d e : D) : Bool := PyData.eqv (toPd d) (toPd e)
section
variable {X : Cx} {f : Fm} {δ : Env} {e a b c : Expr} {es rest : List Expr} {st : Stmt} {sts : List Stmt} {pos p2 : Pos} {Ψ : Rs → Env → Prop} {Θ : Bool → Env → Prop} {Λ : List Rs → Env → Prop} {Φ : Ph}
variable {N : List Str} {sc : Scope} {Pr : Program} {w : World} {K : PySem.W.Frag} {mg : Str → Option Value} {base : Heap} {k n m : Nat}
inductive EqS (δ : Env) : Rs → Rs → (Bool → Prop) → Prop
  | mk {ra rb : Rs} {da db : D} {n m : Nat} {P : Bool → Prop} : rsv δ ra = some da → rsv δ rb = some db → Shp n da → Shp m db → n ≤ 64 → m ≤ 64 → P (eqD da db) → EqS δ ra rb P
theorem cmp_eqD (hr : Room k X.A) : CmpOk X f .Eq fun δ ra rb P => EqS δ ra rb P :=
  ⟨_, op_eqD hr.units, fun δ ra rb P h H σ T x y Q R q => by
    cases h with
    | mk h1 h2 s1 s2 l1 l2 k =>
      obtain ⟨F1, o1⟩ := R.res (v := x) (r := ra) (by simp) h1
      obtain ⟨F2, o2⟩ := R.res (v := y) (r := rb) (by simp) h2
      exact ⟨_, _, own_dp _ _ _ s1.ok o1, own_dp _ _ _ s2.ok o2, s1.shaped l1, s2.shaped l2, q (.bl _) _ _ ⟨_, rfl, k⟩ (R.tail2.pushL rfl)⟩⟩
theorem cmp_neD (hr : Room k X.A) : CmpOk X f .NotEq fun δ ra rb P => EqS δ ra rb fun b => P (!b) :=
  ⟨_, op_neD hr.units, fun δ ra rb P h H σ T x y Q R q => by
    cases h with
    | mk h1 h2 s1 s2 l1 l2 k =>
      obtain ⟨F1, o1⟩ := R.res (v := x) (r := ra) (by simp) h1
      obtain ⟨F2, o2⟩ := R.res (v := y) (r := rb) (by simp) h2
      exact ⟨_, _, own_dp _ _ _ s1.ok o1, own_dp _ _ _ s2.ok o2, s1.shaped l1, s2.shaped l2, q (.bl _) _ _ ⟨_, rfl, k⟩ (R.tail2.pushL rfl)⟩⟩
theorem dt_eqD (hr : Room k X.A) (h : DE X f δ a fun ra δ1 => DE X f δ1 b fun rb δ2 => EqS δ2 ra rb fun t => Θ t δ2) : DT X f δ (.Compare a [.Eq] [b] pos) Θ := dt_cmp (cmp_eqD hr) h (nomark _)
theorem dt_neD (hr : Room k X.A) (h : DE X f δ a fun ra δ1 => DE X f δ1 b fun rb δ2 => EqS δ2 ra rb fun t => Θ (!t) δ2) : DT X f δ (.Compare a [.NotEq] [b] pos) Θ := dt_cmp (cmp_neD hr) h (nomark _)
/-! ### in -/
def leafs : List D → Option (List V)
  | [] => some []
  | d :: ds => match leaf d, leafs ds with
    | some v, some vs => some (v :: vs)
    | _, _ => none
theorem leafs_own {H : Hp} : ∀ {ds : List D} {vs us : List V} {F : Fp}, leafs ds = some us → vs.length = ds.length → Sep (OwnE K H) (vs.zip ds) F → vs = us
  | [], [], us, F, h, _, _ => by cases h; rfl
  | d :: ds, v :: vs, us, F, h, hl, s => by
    unfold leafs at h
    cases e1 : leaf d with
    | none => rw [e1] at h; cases h
    | some x =>
      cases e2 : leafs ds with
      | none => rw [e1, e2] at h; cases h
      | some ys =>
        rw [e1, e2] at h
        cases h
        obtain ⟨F1, F2, s1, s2, _⟩ := s
        rw [OwnE.of_leaf e1 s1, leafs_own e2 (by simpa using hl) s2]
  | [], _ :: _, _, _, _, hl, _ => nomatch hl
  | _ :: _, [], _, _, _, hl, _ => nomatch hl
inductive InS (δ : Env) : Rs → Rs → (Bool → Prop) → Prop
  | flat {ra rb : Rs} {da db : D} {x : V} {ds : List D} {vs : List V} {P : Bool → Prop} : rsv δ ra = some da → leaf da = some x → rsv δ rb = some db → itemsOf db = some ds → leafs ds = some vs → flatV x = true → vs.all flatV = true → P (inV x vs) → InS δ ra rb P
  | sign {c : Nat} {z : Str} {P : Bool → Prop} : P (decide (c ∈ z.cps.toList)) → InS δ (.v (.str ⟨#[c]⟩)) (.v (.str z)) P
  | deep {ra rb : Rs} {da : D} {ds : List D} {n m : Nat} {P : Bool → Prop} : rsv δ ra = some da → rsv δ rb = some (.lst ds) → Shp n da → Shp m (.lst ds) → n ≤ 64 → m ≤ 64 → P (ds.any fun z => eqD z da) → InS δ ra rb P
def rInA (K : PySem.W.Frag) (neg : Bool) : R2 := fun x y H Q => rIn K neg x y H Q ∨ (∃ (c : Nat) (z : Str), x = .str ⟨#[c]⟩ ∧ y = .str z ∧ Q (.bl (if neg then !decide (c ∈ z.cps.toList) else decide (c ∈ z.cps.toList))) H)
theorem op_inA : OpR X (compareOp .In) (rInA X.K false) := OpR.or op_in_seq op_in_sign
theorem toPds_map : ∀ (ds : List D), toPds ds = ds.map toPd
  | [] => rfl
  | d :: ds => congrArg (toPd d :: ·) (toPds_map ds)
theorem InS.flatOk {ra rb : Rs} {da db : D} {x : V} {ds : List D} {vs : List V} {H : Hp} {σ : St} {T : List (V × Rs)} {u y : V} {Q : VK} {neg : Bool} (R : Rp K f H σ δ ((y, rb) :: (u, ra) :: T)) (h1 : rsv δ ra = some da) (h2 : leaf da = some x) (h3 : rsv δ rb = some db) (h4 : itemsOf db = some ds)
    (h5 : leafs ds = some vs) (h6 : flatV x = true) (h7 : vs.all flatV = true) (q : Q (.bl (if neg then !inV x vs else inV x vs)) H) : rIn K neg u y H Q := by
  obtain ⟨F1, o1⟩ := R.res (v := u) (r := ra) (by simp) h1
  obtain ⟨F2, o2⟩ := R.res (v := y) (r := rb) (by simp) h3
  have ex := o1.of_leaf h2
  subst ex
  obtain ⟨p, ws, rfl, hs, hl, F', s⟩ := own_items o2 h4
  have ev := leafs_own h5 hl s
  subst ev
  exact ⟨p, ws, rfl, hs, h6, h7, q⟩
theorem cmp_in (hr : Room k X.A) : CmpOk X f .In fun δ ra rb P => InS δ ra rb P :=
  ⟨_, OpR.or op_inA (op_inD (by have := hr.un; omega)), fun δ ra rb P h H σ T x y Q R q => by
    cases h with
    | flat h1 h2 h3 h4 h5 h6 h7 k => exact .inl (.inl (InS.flatOk R h1 h2 h3 h4 h5 h6 h7 (q (.bl _) _ _ ⟨_, rfl, k⟩ (R.tail2.pushL rfl))))
    | @sign c z _ k =>
      cases R.vstr (v := y) (i := z) (by simp)
      cases R.vstr (v := x) (i := ⟨#[c]⟩) (by simp)
      exact .inl (.inr ⟨c, z, rfl, rfl, q (.bl _) _ _ ⟨_, rfl, k⟩ (R.tail2.pushL rfl)⟩)
    | @deep _ _ da ds _ _ _ h1 h2 s1 s2 l1 l2 k =>
      obtain ⟨F1, o1⟩ := R.res (v := x) (r := ra) (by simp) h1
      obtain ⟨F2, o2⟩ := R.res (v := y) (r := rb) (by simp) h2
      refine .inr ⟨_, _, own_dp _ _ _ s1.ok o1, own_dp _ _ _ s2.ok o2, s1.shaped l1, s2.shaped l2, ?_⟩
      have e : (ds.any fun z => eqD z da) = ((toPds ds).any fun z => PyData.eqv z (toPd da)) := by rw [toPds_map, List.any_map]; rfl
      rw [← e]
      exact q (.bl _) _ _ ⟨_, rfl, k⟩ (R.tail2.pushL rfl)⟩
/-! ### and, or, not as values (of truths) -/
theorem de_bone {op} (h : DE X f δ a Ψ) : DE X f δ (.BoolOp op [a] pos) Ψ := ⟨pe_one h.h⟩
theorem de_and (h : DE X f δ a fun r δ1 => ∃ t, r = .v (.bl t) ∧ (t = true → DE X f δ1 (.BoolOp .And (b :: rest) pos) Ψ) ∧ (t = false → Ψ (.v (.bl false)) δ1)) : DE X f δ (.BoolOp .And (a :: b :: rest) pos) Ψ :=
  DE.of (pe_and h.h (pe_u (f := f))) fun σ H Q ⟨T, R, q⟩ => ⟨T, R, fun r δ1 v H1 ⟨t, e, k⟩ R1 => by
    subst e
    cases R1.vbl (v := v) (i := t) (by simp)
    refine ⟨t, rfl, ?_⟩
    cases t with
    | true => exact ⟨δ1, _, k.1 rfl, T, R1.tail, q⟩
    | false => exact q _ _ _ _ (k.2 rfl) (R1.tail.pushL rfl)⟩
theorem de_not (h : DE X f δ a fun r δ1 => ∃ t, r = .v (.bl t) ∧ Ψ (.v (.bl (!t))) δ1) : DE X f δ (.UnaryOp .Not a pos) Ψ :=
  DE.of (pe_not h.h) fun σ H Q ⟨T, R, q⟩ => ⟨T, R, fun r δ1 v H1 ⟨t, e, k⟩ R1 => by
    subst e
    cases R1.vbl (v := v) (i := t) (by simp)
    exact ⟨t, rfl, q _ _ _ _ k (R1.tail.pushL rfl)⟩⟩
/-! ### conversions -/
inductive IntS : List Rs → (D → Prop) → Prop
  | int {i : Int} {P : D → Prop} : P (.int i) → IntS [.v (.int i)] P
  | bl {t : Bool} {P : D → Prop} : P (.int (if t then 1 else 0)) → IntS [.v (.bl t)] P
  | str {z : Str} {n : Int} {P : D → Prop} : PySem.intText? z = some n → z.length ≤ 640 → P (.int n) → IntS [.v (.str z)] P
theorem de_intc {p : Pos} (B : Bd X N sc) (J : Jn X Pr w K mg base) (hg : Gls sc "int") (hm : mg "int" = none) (h : DA X f δ [e] fun rs δ1 => IntS rs fun d => Ψ (.v d) δ1) (he : starEach [e] X.env = (false, eval e X.env) :: starEach [] X.env := by rfl) : DE X f δ (.Call (.Name "int" p) [e] [] pos) Ψ :=
  de_bty (CallR.or call_int1 call_int_str) B J hg hm PyProof.Rows.boot_int (he := he) (h := h.mono fun rs δ1 k => by
    cases k with
    | @int i _ k =>
        refine callOk1 fun H σ T v Q R q => ?_
        cases R.vint (v := v) (i := i) (by simp)
        exact .inl (.inl ⟨_, rfl, q _ _ _ k (R.tail.pushL rfl)⟩)
    | @bl i _ k =>
        refine callOk1 fun H σ T v Q R q => ?_
        cases R.vbl (v := v) (i := i) (by simp)
        exact .inl (.inr ⟨_, rfl, q _ _ _ k (R.tail.pushL rfl)⟩)
    | @str i n _ h1 h2 k =>
        refine callOk1 fun H σ T v Q R q => ?_
        cases R.vstr (v := v) (i := i) (by simp)
        exact .inr ⟨_, _, rfl, h1, h2, q _ _ _ k (R.tail.pushL rfl)⟩)
inductive StrS : List Rs → (D → Prop) → Prop
  | int {i : Int} {P : D → Prop} : i.natAbs.log2 < 1920 → P (.str (toString i)) → StrS [.v (.int i)] P
  | str {z : Str} {P : D → Prop} : P (.str z) → StrS [.v (.str z)] P
/-- list(x), tuple(x) of what has items -/
inductive SeqC (δ : Env) : List Rs → (List D → Prop) → Prop
  | mk {r : Rs} {d : D} {ds : List D} {P : List D → Prop} : rsv δ r = some d → itemsOf d = some ds → (∀ x ∈ ds, Imm x) → P ds → SeqC δ [r] P
theorem de_listc {p : Pos} (B : Bd X N sc) (J : Jn X Pr w K mg base) (hg : Gls sc "list") (hm : mg "list" = none) (h : DA X f δ [e] fun rs δ1 => SeqC δ1 rs fun ds => Ψ (.v (.lst ds)) δ1) (he : starEach [e] X.env = (false, eval e X.env) :: starEach [] X.env := by rfl) : DE X f δ (.Call (.Name "list" p) [e] [] pos) Ψ :=
  de_bty call_list_of B J hg hm PyProof.Rows.boot_list (he := he) (h := h.mono fun rs δ1 k => by
    cases k with
    | @mk r d ds _ h1 h2 hi k =>
        refine callOk1 fun H σ T v Q R q => ?_
        obtain ⟨F, o⟩ := R.res (v := v) (r := r) (by simp) h1
        obtain ⟨p, vs, rfl, hs, hl, F', s⟩ := own_items o h2
        exact ⟨p, vs, rfl, hs, fun l hl' => q _ _ _ k (R.tail.newI hl' (show upd H l _ l = _ from upd_same) hl (sep_imm s hi))⟩)
theorem de_tuplec {p : Pos} (B : Bd X N sc) (J : Jn X Pr w K mg base) (hg : Gls sc "tuple") (hm : mg "tuple" = none) (h : DA X f δ [e] fun rs δ1 => SeqC δ1 rs fun ds => Ψ (.v (.tup ds)) δ1) (he : starEach [e] X.env = (false, eval e X.env) :: starEach [] X.env := by rfl) : DE X f δ (.Call (.Name "tuple" p) [e] [] pos) Ψ :=
  de_bty call_tuple_of B J hg hm PyProof.Rows.boot_tuple (he := he) (h := h.mono fun rs δ1 k => by
    cases k with
    | @mk r d ds _ h1 h2 hi k =>
        refine callOk1 fun H σ T v Q R q => ?_
        obtain ⟨F, o⟩ := R.res (v := v) (r := r) (by simp) h1
        cases d with
        | tup xs =>
          cases h2
          have im : Imm (.tup ds) := imm_tup hi
          obtain ⟨p, vs, rfl, hs, hl, F', s⟩ := own_tup o
          exact ⟨p, vs, rfl, .inr ⟨hs, q _ _ _ k (R.tail.pushI o im)⟩⟩
        | tk xs =>
          cases h2
          have im : Imm (.tup ds) := imm_tup hi
          obtain ⟨p, vs, rfl, hs, hl, F', s⟩ := own_tup o.tkt
          exact ⟨p, vs, rfl, .inr ⟨hs, q _ _ _ k (R.tail.pushI o.tkt im)⟩⟩
        | lst xs =>
          cases h2
          obtain ⟨p, vs, rfl, hs, hl, F', s⟩ := own_lst o
          exact ⟨p, vs, rfl, .inl ⟨SqL.of hs, fun l hl' => q _ _ _ k (R.tail.newI hl' (show SqT X.K (upd H l _) l _ from SqT.of upd_same) hl (sep_imm s hi))⟩⟩
        | fz xs =>
          cases h2
          obtain ⟨p, vs, rfl, hs, hl, F', s⟩ := own_fz o
          exact ⟨p, vs, rfl, .inl ⟨hs, fun l hl' => q _ _ _ k (R.tail.newI hl' (show SqT X.K (upd H l _) l _ from SqT.of upd_same) hl (sep_imm s hi))⟩⟩
        | _ => cases h2)
end
end Dl

namespace Dl
open PySem PySem.Spec PyProof.Rows L2

/-! ### enumerate and zip of lists, tuples and texts -/
inductive Sm where
  | L (a : Addr) | T (a : Addr) | S (z : Str)
def Sm.x : Sm → V
  | .L a => .ref a
  | .T a => .ref a
  | .S z => .str z
def Sm.at : Sm → List Addr
  | .L a => [a]
  | .T a => [a]
  | .S _ => []
def Sm.u (t : Tok) : Sm → Value
  | .L a => .ref a
  | .T a => .ref a
  | .S z => .str z t
def Sm.o (t : Tok) : Sm → Obj
  | .L a => { cls := .type "list_iterator", data := .fields #[.ref a, .int 0 0] }
  | .T a => { cls := .type "tuple_iterator", data := .fields #[.ref a, .int 0 0] }
  | .S z => { cls := .type (strIterType z), data := .fields #[.str z t, .int 0 0] }
def Sm.cur (t : Tok) (it : Addr) (i : Nat) (h : Heap) : Sm → Prop
  | .L a => h.IsListIter it a i
  | .T a => h.IsTupleIter it a i
  | .S z => h.IsStrIter it (strIterType z) z t i
def signV (z : Str) : List V := z.cps.toList.map fun c => .str ⟨#[c]⟩
def Sm.has (K : PySem.W.Frag) (H : Hp) (xs : List V) : Sm → Prop
  | .L a => SqL K H a xs
  | .T a => SqT K H a xs
  | .S z => xs = signV z
theorem Sm.rel {k : Sm} {u : Value} (r : RelV k.x u) : ∃ t, u = k.u t := by
  cases k with
  | L a => cases r; exact ⟨0, rfl⟩
  | T a => cases r; exact ⟨0, rfl⟩
  | S z => obtain ⟨t, rfl⟩ := r; exact ⟨t, rfl⟩
theorem Sm.cur_at {k : Sm} {t : Tok} {it : Addr} {i : Nat} {h h' : Heap} (c : k.cur t it i h) (q : ∀ o, h.get? it = some o → h'.get? it = some o) : k.cur t it i h' := by
  cases k with
  | L a => exact Heap.IsListIter.at c q
  | T a => exact Heap.IsTupleIter.at c q
  | S z => obtain ⟨o, ho, r⟩ := c; exact ⟨o, q o ho, r⟩
theorem Sm.cur_obj {k : Sm} {t : Tok} {it : Addr} {i : Nat} {h : Heap} (c : k.cur t it i h) : ∃ o, h.get? it = some o ∧ ∀ v, o.data ≠ .cell v := by
  cases k with
  | L a => obtain ⟨o, ho, _, hd⟩ := c; exact ⟨o, ho, fun v q => by rw [hd] at q; cases q⟩
  | T a => obtain ⟨o, ho, _, hd⟩ := c; exact ⟨o, ho, fun v q => by rw [hd] at q; cases q⟩
  | S z => obtain ⟨o, ho, _, hd⟩ := c; exact ⟨o, ho, fun v q => by rw [hd] at q; cases q⟩
theorem Sm.cur0 {k : Sm} {t : Tok} {it : Addr} {h : Heap} (q : h.get? it = some (k.o t)) : k.cur t it 0 h := by
  cases k with
  | L a => exact ⟨_, q, rfl, rfl⟩
  | T a => exact ⟨_, q, rfl, rfl⟩
  | S z => exact ⟨_, q, rfl, rfl⟩
section
variable {X : Cx} {pins : List (Addr × Obj)} {σ : L2.St} {H : Hp} {s : Shared}
theorem Sm.uniq {k : Sm} {xs ys : List V} (I : Inv X pins σ H s) (a : k.has X.K H xs) (b : k.has X.K H ys) : xs = ys := by
  cases k with
  | L p => exact I.list_inj a b
  | T p => exact I.tuple_inj a b
  | S z => exact (show xs = signV z from a).trans (show ys = signV z from b).symm
theorem Sm.lt {k : Sm} {xs : List V} (I : Inv X pins σ H s) (a : k.has X.K H xs) : ∀ b ∈ k.at, b < s.heap.objs.size := fun b m => by
  cases k with
  | L p =>
    obtain ⟨its, rv, q, _⟩ := I.list a
    have e : b = p := by simpa [Sm.at] using m
    rw [e]; exact q.lt
  | T p =>
    obtain ⟨its, rv, q, _⟩ := I.tuple a
    have e : b = p := by simpa [Sm.at] using m
    obtain ⟨o, ho, _⟩ := id (show s.heap.IsTuple p its.toArray from q)
    rw [e]; exact Heap.lt_size ho
  | S z => cases m
theorem Sm.begins {k : Sm} {xs : List V} (t : Tok) (I : Inv X pins σ H s) (a : k.has X.K H xs) : ∃ HH : Heap → Prop, Begins (k.u t) (k.o t) HH ∧ HH s.heap := by
  cases k with
  | L p =>
    obtain ⟨its, rv, q, _⟩ := I.list a
    exact ⟨_, begins_list p its.toArray, q.isList⟩
  | T p =>
    obtain ⟨its, rv, q, _⟩ := I.tuple a
    exact ⟨_, begins_tuple p its.toArray, show s.heap.IsTuple p its.toArray from q⟩
  | S z => exact ⟨_, begins_text z t, trivial⟩
theorem vals_back {xs : List V} {us : List Value} (rv : Vals xs us) {i : Nat} {u : Value} (h : us[i]? = some u) : ∃ x, xs[i]? = some x ∧ RelV x u := by
  have hl := rv.length
  have hi := (List.getElem?_eq_some_iff.mp h).1
  have hx : xs[i]? = some (xs[i]'(by omega)) := List.getElem?_eq_getElem (by omega)
  obtain ⟨u', h1, r⟩ := rv.get hx
  rw [h] at h1
  cases h1
  exact ⟨_, hx, r⟩
structure SmDraws (P : Program) (w : World) (A : Around) (k : Sm) (t : Tok) (it : Addr) (xs : List V) (Pp : Nat → Value → Prop) (Stt : Nat → Heap → Prop) (h0 : Heap) : Prop where
  d : Draws P w A it (it :: k.at) xs.length Pp Stt
  i : ∀ i, k.cur t it i h0 → Stt i h0
  o : ∀ i h, Stt i h → k.cur t it i h
  v : ∀ i u, Pp i u → ∃ x, xs[i]? = some x ∧ RelV x u
theorem Sm.draws {k : Sm} {xs : List V} {t : Tok} {it : Addr} {A : Around} (I : Inv X pins σ H s) (hq : k.has X.K H xs) (hc : A.handled = none) (hne : ∀ b ∈ k.at, b ≠ it) : ∃ Pp Stt, SmDraws X.prog X.w A k t it xs Pp Stt s.heap := by
  cases k with
  | L p =>
    obtain ⟨its, rv, q, _⟩ := I.list hq
    have hl : xs.length = its.toArray.size := by rw [List.size_toArray]; exact rv.length
    refine ⟨_, _, ⟨hl ▸ Draws.list hc it p (hne p (by simp [Sm.at])) its.toArray, fun i c => ⟨c, q.isList⟩, fun i h st => st.1, fun i u h => vals_back rv (by simpa using h)⟩⟩
  | T p =>
    obtain ⟨its, rv, q, _⟩ := I.tuple hq
    have hl : xs.length = its.toArray.size := by rw [List.size_toArray]; exact rv.length
    refine ⟨_, _, ⟨hl ▸ Draws.tuple hc it p (hne p (by simp [Sm.at])) its.toArray, fun i c => ⟨c, (show s.heap.IsTuple p its.toArray from q)⟩, fun i h st => st.1, fun i u h => vals_back rv (by simpa using h)⟩⟩
  | S z =>
    have hx : xs = signV z := hq
    subst hx
    have hl : (signV z).length = z.cps.size := by simp [signV]
    refine ⟨_, _, ⟨hl ▸ Draws.text hc it z t, fun i c => c, fun i h st => st, fun i u h => ?_⟩⟩
    obtain ⟨c, tk, h1, rfl⟩ := h
    refine ⟨.str ⟨#[c]⟩, ?_, tk, rfl⟩
    unfold signV
    rw [List.getElem?_map, Array.getElem?_toList, h1]
    rfl
end
def IteK (K : PySem.W.Frag) (k : Sm) : It :=
  ⟨fun i H => ∃ (xs : List V) (x : V), k.has K H xs ∧ xs[i]? = some x, fun i H v H' => ∃ T x, v = .ref T ∧ H T = none ∧ H' = upd H T (.tup [.int (i : Nat), x]) ∧ ∀ xs, k.has K H xs → xs[i]? = some x, fun i H => ∃ xs : List V, k.has K H xs ∧ xs.length = i⟩
theorem turn_enumK {P : Program} {w : World} {K : PySem.W.Frag} {elts : List Expr} {kk : Nat} {tpos : Pos} (k : Sm) (t : Tok) (e it : Addr) (hne : e ≠ it) (hk : ∀ b ∈ k.at, b ≠ it ∧ b ≠ e) :
    Turn P w K (.Tuple elts kk tpos) (IteK K k) [e, it] e (fun i h => (∃ old, IsEnum h e it ((i : Nat) : Int) old) ∧ k.cur t it i h) where
  mem := by simp
  obj := fun i h st b hb => by
    obtain ⟨⟨old, he⟩, hc⟩ := st
    have e' : b = e ∨ b = it := by simpa using hb
    rcases e' with z | z
    · rw [z]; exact ⟨_, he, fun v q => nomatch q⟩
    · rw [z]; exact Sm.cur_obj hc
  keep := fun i h h' st k => let ⟨⟨old, he⟩, hi⟩ := st; ⟨⟨old, k e (by simp) _ he⟩, Sm.cur_at hi fun o q => k it (by simp) o q⟩
  item := by
    intro X hP hw hK hc i pins s σ H E I hf st hg
    subst hP hw hK
    obtain ⟨⟨old, he⟩, hit⟩ := st
    obtain ⟨xs, x, hq, hx⟩ := hg
    obtain ⟨Pp, Stt, D⟩ := Sm.draws (t := t) (A := X.A.in1) I hq (I.ok.hd hc) (fun b m => (hk b m).1)
    have hlt : i < xs.length := (List.getElem?_eq_some_iff.mp hx).1
    have hel : e < s.heap.objs.size := Heap.lt_size he
    have hil : it < s.heap.objs.size := by obtain ⟨_, q, _⟩ := Sm.cur_obj hit; exact Heap.lt_size q
    have hef : e ∉ it :: k.at := fun m => (List.mem_cons.mp m).elim hne fun m => (hk e m).2 rfl
    refine wpAny_pyNext_enum_itemD D.d he (D.i i hit) hlt hne hef fun u h' tk hP ho hit' hT hsz hkk => ?_
    obtain ⟨x', hx', ru⟩ := D.v _ _ hP
    rw [hx] at hx'
    cases hx'
    refine ⟨_, rfl, wpAny_letOwnedTupleGo_enum (s := { s with heap := h', toks := tk + 1 }) ho fun h'' he' sb => ?_⟩
    have hT2 : h''.get? s.heap.objs.size = some { cls := .type "tuple", data := .seq #[.int i tk, u] } := (sb.2 _ (Nat.ne_of_gt hel)).trans hT
    have new : ObjOk X.prog X.w (upd H s.heap.objs.size (.tup [.int (i : Nat), x])) h'' s.heap.objs.size (.tup [.int (i : Nat), x]) :=
      ⟨by show 2 ≤ sizeLine; decide, [.int i tk, u], .cons ⟨_, rfl⟩ (.cons ru .nil), ⟨_, hT2, rfl, _, rfl⟩⟩
    have I1 : Inv X pins σ (upd H s.heap.objs.size (.tup [.int (i : Nat), x])) { s with heap := h'', toks := tk + 1 } :=
      I.turnedNew (ch := [e, it]) (fun b ob hb q => (sb.2 b (fun z => hb (by simp [z]))).trans (hkk b ob (fun z => hb (by simp [z])) (fun z => hb (by simp [z])) q)) hf (Nat.le_refl _) new
    refine ⟨.ref s.heap.objs.size, _, I1, rfl, ⟨_, x, rfl, I.hok.fresh (Nat.le_refl _), rfl, fun ys hy => by rw [Sm.uniq I hy hq]; exact hx⟩, ⟨⟨u, ?_⟩, Sm.cur_at (D.o _ _ hit') fun o q => (sb.2 it (Ne.symm hne)).trans q⟩, fun b hb => ?_⟩
    · have e1 : ((i + 1 : Nat) : Int) = (i : Int) + 1 := by omega
      rw [e1]; exact he'
    · have hb' : b < s.heap.objs.size := by
        have e' : b = e ∨ b = it := by simpa using hb
        rcases e' with z | z
        · rw [z]; exact hel
        · rw [z]; exact hil
      rw [upd_ne (Nat.ne_of_lt hb')]
      exact (hf b hb).1
  done := by
    intro X hP hw hK hc i pins s σ H E I hf st hg
    subst hP hw hK
    obtain ⟨⟨old, he⟩, hit⟩ := st
    obtain ⟨xs, hq, hx⟩ := hg
    subst hx
    obtain ⟨Pp, Stt, D⟩ := Sm.draws (t := t) (A := X.A.in1) I hq (I.ok.hd hc) (fun b m => (hk b m).1)
    obtain ⟨f0, f1, f2, f3, f4, f5⟩ := hf it (by simp)
    exact wpAny_pyNext_enum_endD D.d he (D.i _ hit) fun h' eb => ⟨rfl, I.turned (t' := s.toks) (fun b o hb q => eb b o hb q) f0 f1 f3 f4 f5⟩
  self := fun A i s Q E st h => let ⟨⟨_, he⟩, _⟩ := st; wpAny_pyIter_enum he h

theorem meets_enumerate_newB1 {v : Value} {o : Obj} {H : Heap → Prop} (B : Begins v o H) :
    Meets (Builtin.«enumerate.__new__» ⟨[.type "enumerate", v], []⟩) (fun _ R s => H s.heap ∧
      R (.ok (.ret (.ref (s.heap.push o).objs.size))) { s with heap := (s.heap.push o).push { cls := .type "enumerate", data := .fields #[.none, .bool false, .ref s.heap.objs.size, rawInt 0, .none, .none] } }) :=
  .of_wp fun prog w A R s h => by
    obtain ⟨hp, g, d, tk, os⟩ := s; obtain ⟨h1, h⟩ := h
    have hsub := sub_enumerate
    have q1 : ∀ {A' : Around} {E : Value → Shared → Prop} {Q : Value → Shared → Prop}, Q (.ref hp.objs.size) ⟨hp.push o, g, d, tk, os⟩ → wpAny (model prog w) A' (pyIter v) Q E ⟨hp, g, d, tk, os⟩ :=
      fun q => B.iter prog w _ _ ⟨hp, g, d, tk, os⟩ _ h1 q
    wp_walk using q1
    refine wpAny_stack_any fun st => wpAny_pure ?_
    split
    · rename_i c _ _ _ _ _
      cases (c == Value.type "enumerate")
      · wp_walk using q1
        exact ⟨_, rfl, h⟩
      · wp_walk using q1
        exact ⟨_, rfl, h⟩
    · wp_walk using q1
      exact ⟨_, rfl, h⟩
section
variable {prog : Program} {w : World} {A : Around} {E : Value → Shared → Prop} {s : Shared}
theorem enum_begins1 {v : Value} {o : Obj} {H : Heap → Prop} {Q : Value → Shared → Prop} (B : Begins v o H) (h1 : H s.heap)
    (h : ∀ h', IsEnum h' (s.heap.objs.size + 1) s.heap.objs.size 0 .none → h'.get? s.heap.objs.size = some o → h'.objs.size = s.heap.objs.size + 2 →
      (∀ b o, s.heap.get? b = some o → h'.get? b = some o) → Q (.ref (s.heap.objs.size + 1)) { s with heap := h' }) :
    wpAny (model prog w) A (call (.type "enumerate") [v]) Q E s := by
  refine callType_new F.called_enumerate (by decide) (F.typeCall_enumerate_1 _) (F.newCall_enumerate_1 _) (fun obj => F.args_object_init_2 obj _) F.entry_enumerate_new
    (meets_enumerate_newB1 B) ⟨h1, ?_⟩
  have hz : (s.heap.push o).objs.size = s.heap.objs.size + 1 := Heap.size_push ..
  show _ ∧ _
  rw [hz]
  have he : IsEnum ((s.heap.push o).push { cls := .type "enumerate", data := .fields #[.none, .bool false, .ref s.heap.objs.size, rawInt 0, .none, .none] }) (s.heap.objs.size + 1) s.heap.objs.size 0 .none := by
    have := Heap.get?_push_size (s.heap.push o) (o := { cls := .type "enumerate", data := .fields #[.none, .bool false, .ref s.heap.objs.size, rawInt 0, .none, .none] }) rfl
    rw [hz] at this; exact this
  refine ⟨⟨_, he, rfl⟩, h _ he (Heap.get?_push_of_some _ (Heap.get?_push_size _ B.free)) (by rw [Heap.size_push, hz]) fun b o x => Heap.get?_push_of_some _ (Heap.get?_push_of_some _ x)⟩
end
def iEnK (K : PySem.W.Frag) (ta : TA) : TI := fun σ H R => ta σ H fun vs H1 => ∃ k xs, vs = [Sm.x k] ∧ k.has K H1 xs ∧ R (IteK K k) H1
theorem pi_enumK {X : Cx} {e : Expr} {ta : TA} {p pos tpos : Pos} {elts : List Expr} {kk : Nat} (hg : Gl X "enumerate") (hm : X.mg "enumerate" = none) (ha : PA X [e] ta) (hs : starEach [e] X.env = [(false, eval e X.env)] := by rfl) :
    PI X (.Tuple elts kk tpos) (.Call (.Name "enumerate" p) [e] [] pos) (iEnK X.K ta) := by
  refine ⟨fun pins s σ H R I h => ?_⟩
  refine Call_ (ld_blt I hg hm boot_enumerate (PyProof.Rows.callWith_type1 (thn (ha.run pos pins s σ H _ I h) fun us s1 ⟨vs, H1, I1, r1, q1⟩ => ?_) hs rfl))
  obtain ⟨k, xs, ex, hq, q⟩ := q1
  subst ex
  cases r1 with
  | cons r rr =>
    cases rr
    obtain ⟨t, rfl⟩ := Sm.rel r
    obtain ⟨HH, B, hb⟩ := Sm.begins t I1 hq
    refine enum_begins1 B hb fun h' he hit hsz hk => wpAny_pyIter_enum he ?_
    have I2 : Inv X pins σ H1 { s1 with heap := h' } := I1.kept (t' := s1.toks) hk
    have hl := Sm.lt I1 hq
    refine ⟨s1.heap.objs.size + 1, [s1.heap.objs.size + 1, s1.heap.objs.size], _, _, H1, rfl, I2, turn_enumK k t (s1.heap.objs.size + 1) s1.heap.objs.size (Nat.succ_ne_self _) (fun b m => ⟨Nat.ne_of_lt (hl b m), Nat.ne_of_lt (Nat.lt_succ_of_lt (hl b m))⟩), ⟨⟨.none, he⟩, Sm.cur0 hit⟩, fun b hb => ?_, q⟩
    have e' : b = s1.heap.objs.size + 1 ∨ b = s1.heap.objs.size := by simpa using hb
    have hle : s1.heap.objs.size ≤ b := by
      rcases e' with z | z
      · rw [z]; exact Nat.le_add_right _ _
      · rw [z]; exact Nat.le_refl _
    exact I1.fpOk hle (I1.hok.fresh hle)
/-! zip -/
def ItzK (K : PySem.W.Frag) (k l : Sm) : It :=
  ⟨fun i H => ∃ (xs ys : List V) (x y : V), k.has K H xs ∧ l.has K H ys ∧ xs[i]? = some x ∧ ys[i]? = some y,
    fun i H v H' => ∃ T x y, v = .ref T ∧ H T = none ∧ H' = upd H T (.tup [x, y]) ∧ (∀ xs, k.has K H xs → xs[i]? = some x) ∧ ∀ ys, l.has K H ys → ys[i]? = some y,
    fun i H => ∃ xs ys : List V, k.has K H xs ∧ l.has K H ys ∧ i = min xs.length ys.length⟩
theorem turn_zipK {P : Program} {w : World} {K : PySem.W.Frag} {elts : List Expr} {kk : Nat} {tpos : Pos} {k l : Sm} {t t2 : Tok} {z TI TO i1 i2 : Addr} (D : ZipSep2 z TI TO i1 i2 (i1 :: k.at) (i2 :: l.at)) (hne1 : ∀ b ∈ k.at, b ≠ i1) (hne2 : ∀ b ∈ l.at, b ≠ i2) :
    Turn P w K (.Tuple elts kk tpos) (ItzK K k l) [z, TI, TO, i1, i2] z (fun i h => IsZip h z TI TO .none ∧ IsTupOf2 h TI (.ref i1) (.ref i2) ∧ (∃ x y, IsTupOf2 h TO x y) ∧ k.cur t i1 i h ∧ l.cur t2 i2 i h) where
  mem := by simp
  obj := fun i h st c hc => by
    obtain ⟨hz, hTI, ⟨x, y, hTO⟩, h1, h2⟩ := st
    have e' : c = z ∨ c = TI ∨ c = TO ∨ c = i1 ∨ c = i2 := by simpa using hc
    rcases e' with q | q | q | q | q
    · rw [q]; exact ⟨_, hz, fun v q => nomatch q⟩
    · rw [q]; exact ⟨_, hTI, fun v q => nomatch q⟩
    · rw [q]; exact ⟨_, hTO, fun v q => nomatch q⟩
    · rw [q]; exact Sm.cur_obj h1
    · rw [q]; exact Sm.cur_obj h2
  keep := fun i h h' st k => by
    obtain ⟨hz, hTI, ⟨x, y, hTO⟩, h1, h2⟩ := st
    exact ⟨k z (by simp) _ hz, k TI (by simp) _ hTI, ⟨x, y, k TO (by simp) _ hTO⟩, Sm.cur_at h1 fun o q => k i1 (by simp) o q, Sm.cur_at h2 fun o q => k i2 (by simp) o q⟩
  item := by
    intro X hP hw hK hc i pins s σ H E I hf st hg
    subst hP hw hK
    obtain ⟨hz, hTI, ⟨x0, y0, hTO⟩, h1, h2⟩ := st
    obtain ⟨xs, ys, x, y, hqx, hqy, hx, hy⟩ := hg
    obtain ⟨Pp, Stt, D1⟩ := Sm.draws (t := t) (A := X.A.in1) I hqx (I.ok.hd hc) hne1
    obtain ⟨Pp2, Stt2, D2⟩ := Sm.draws (t := t2) (A := X.A.in1) I hqy (I.ok.hd hc) hne2
    have hlt1 : i < xs.length := (List.getElem?_eq_some_iff.mp hx).1
    have hlt2 : i < ys.length := (List.getElem?_eq_some_iff.mp hy).1
    have hzl : z < s.heap.objs.size := Heap.lt_size hz
    refine wpAny_pyNext_zipD2_item D D1.d D2.d hz hTI hTO (D1.i _ h1) (D2.i _ h2) hlt1 hlt2 fun u u2 h' tk hP1 hP2 z' TO' h1' h2' hT hsz hk => ?_
    obtain ⟨xa, hxa, ru⟩ := D1.v _ _ hP1
    obtain ⟨ya, hya, ru2⟩ := D2.v _ _ hP2
    rw [hx] at hxa
    cases hxa
    rw [hy] at hya
    cases hya
    refine ⟨_, rfl, wpAny_letOwnedTupleGo_zip (s := { s with heap := h', toks := tk }) z' fun h'' z'' sb => ?_⟩
    have hT2 : h''.get? s.heap.objs.size = some { cls := .type "tuple", data := .seq #[u, u2] } := (sb.2 _ (Nat.ne_of_gt hzl)).trans hT
    have new : ObjOk X.prog X.w (upd H s.heap.objs.size (.tup [x, y])) h'' s.heap.objs.size (.tup [x, y]) :=
      ⟨by show 2 ≤ sizeLine; decide, [u, u2], .cons ru (.cons ru2 .nil), ⟨_, hT2, rfl, _, rfl⟩⟩
    have I1 : Inv X pins σ (upd H s.heap.objs.size (.tup [x, y])) { s with heap := h'', toks := tk } :=
      I.turnedNew (t' := tk) (ch := [z, TI, TO, i1, i2]) (fun c o hb q => (sb.2 c (fun q' => hb (by simp [q']))).trans (hk c o (fun q' => hb (by simp [q'])) (fun q' => hb (by simp [q'])) (fun q' => hb (by simp [q'])) (fun q' => hb (by simp [q'])) q)) hf (Nat.le_refl _) new
    refine ⟨.ref s.heap.objs.size, _, I1, rfl, ⟨_, x, y, rfl, I.hok.fresh (Nat.le_refl _), rfl, fun l hl => by rw [Sm.uniq I hl hqx]; exact hx, fun l hl => by rw [Sm.uniq I hl hqy]; exact hy⟩, ⟨z'', ?_, ⟨u, u2, ?_⟩, ?_, ?_⟩, fun c hcm => ?_⟩
    · exact (sb.2 _ D.TIz).trans (hk _ _ D.TIz D.TITO D.TIi1 D.TIi2 hTI)
    · exact (sb.2 _ D.TOz).trans TO'
    · exact Sm.cur_at (D1.o _ _ h1') fun o q => (sb.2 _ D.zi1.symm).trans q
    · exact Sm.cur_at (D2.o _ _ h2') fun o q => (sb.2 _ D.zi2.symm).trans q
    · have hlt : c < s.heap.objs.size := by
        have e' : c = z ∨ c = TI ∨ c = TO ∨ c = i1 ∨ c = i2 := by simpa using hcm
        rcases e' with q | q | q | q | q
        · rw [q]; exact hzl
        · rw [q]; exact Heap.lt_size hTI
        · rw [q]; exact Heap.lt_size hTO
        · rw [q]; obtain ⟨_, e1, _⟩ := Sm.cur_obj h1; exact Heap.lt_size e1
        · rw [q]; obtain ⟨_, e2, _⟩ := Sm.cur_obj h2; exact Heap.lt_size e2
      rw [upd_ne (Nat.ne_of_lt hlt)]
      exact (hf c hcm).1
  done := by
    intro X hP hw hK hc i pins s σ H E I hf st hg
    subst hP hw hK
    obtain ⟨hz, hTI, ⟨x0, y0, hTO⟩, h1, h2⟩ := st
    obtain ⟨xs, ys, hqx, hqy, hend⟩ := hg
    obtain ⟨Pp, Stt, D1⟩ := Sm.draws (t := t) (A := X.A.in1) I hqx (I.ok.hd hc) hne1
    obtain ⟨Pp2, Stt2, D2⟩ := Sm.draws (t := t2) (A := X.A.in1) I hqy (I.ok.hd hc) hne2
    exact wpAny_pyNext_zipD2_end D D1.d D2.d hz hTI hTO (D1.i _ h1) (D2.i _ h2) (by omega) (by omega) (by omega) fun h' tk hk => ⟨rfl, I.turnedL (t' := tk) (ch := [z, TI, TO, i1, i2]) (fun c o hb q =>
      hk c o (fun q' => hb (by simp [q'])) (fun q' => hb (by simp [q'])) (fun q' => hb (by simp [q'])) (fun q' => hb (by simp [q'])) q) hf⟩
  self := fun A i s Q E st h => wpAny_pyIter_zip st.1 h
def iZipK (K : PySem.W.Frag) (ta : TA) : TI := fun σ H R => ta σ H fun vs H1 => ∃ k l xs ys, vs = [Sm.x k, Sm.x l] ∧ k.has K H1 xs ∧ l.has K H1 ys ∧ R (ItzK K k l) H1
theorem pi_zipK {X : Cx} {e e2 : Expr} {ta : TA} {p pos tpos : Pos} {elts : List Expr} {kk : Nat} (hg : Gl X "zip") (hm : X.mg "zip" = none) (ha : PA X [e, e2] ta)
    (hs : starEach [e, e2] X.env = (false, eval e X.env) :: starEach [e2] X.env := by rfl) (hpl : (backTo pos (starEach [e2] X.env)).any (·.1) = false := by rfl) :
    PI X (.Tuple elts kk tpos) (.Call (.Name "zip" p) [e, e2] [] pos) (iZipK X.K ta) := by
  refine ⟨fun pins s σ H R I h => ?_⟩
  refine Call_ (ld_blt I hg hm PyProof.Rows.boot_zip (PyProof.Rows.callWith_type1 (thn (ha.run pos pins s σ H _ I h) fun us s1 ⟨vs, H1, I1, r1, q1⟩ => ?_) hs hpl))
  obtain ⟨k, l, xs, ys, ex, hqx, hqy, q⟩ := q1
  subst ex
  cases r1 with
  | cons r rr =>
    cases rr with
    | cons r' rr =>
      cases rr
      obtain ⟨t, rfl⟩ := Sm.rel r
      obtain ⟨t2, rfl⟩ := Sm.rel r'
      obtain ⟨HH, B, hb⟩ := Sm.begins t I1 hqx
      obtain ⟨HH2, B2, hb2⟩ := Sm.begins t2 I1 hqy
      have fresh5 : ∀ c, c ∈ [s1.heap.objs.size + 4, s1.heap.objs.size + 2, s1.heap.objs.size + 3, s1.heap.objs.size, s1.heap.objs.size + 1] → FpOk X pins H1 c := fun c hcm => by
        have e' : c = s1.heap.objs.size + 4 ∨ c = s1.heap.objs.size + 2 ∨ c = s1.heap.objs.size + 3 ∨ c = s1.heap.objs.size ∨ c = s1.heap.objs.size + 1 := by simpa using hcm
        have hle : s1.heap.objs.size ≤ c := by
          rcases e' with z | z | z | z | z
          · rw [z]; exact Nat.le_add_right _ _
          · rw [z]; exact Nat.le_add_right _ _
          · rw [z]; exact Nat.le_add_right _ _
          · rw [z]; exact Nat.le_refl _
          · rw [z]; exact Nat.le_add_right _ _
        exact I1.fpOk hle (I1.hok.fresh hle)
      have hl := Sm.lt I1 hqx
      have hl2 := Sm.lt I1 hqy
      refine zip_begins2 B B2 hb hb2 fun h' hz hTI hTO h1 h2 hsz hk => wpAny_pyIter_zip hz ?_
      have I2 : Inv X pins σ H1 { s1 with heap := h' } := I1.kept (t' := s1.toks) hk
      exact ⟨s1.heap.objs.size + 4, [s1.heap.objs.size + 4, s1.heap.objs.size + 2, s1.heap.objs.size + 3, s1.heap.objs.size, s1.heap.objs.size + 1], _, _, H1, rfl, I2, turn_zipK (t := t) (t2 := t2) (zip_sep2 hl hl2) (fun b m => Nat.ne_of_lt (hl b m)) (fun b m => Nat.ne_of_lt (Nat.lt_succ_of_lt (hl2 b m))), ⟨hz, hTI, ⟨_, _, hTO⟩, Sm.cur0 h1, Sm.cur0 h2⟩, fresh5, q⟩

/-! ### at data -/
def Fits (K : PySem.W.Frag) (k : Sm) (v : V) (d : D) (ds : List D) : Prop := ∀ H F, OwnE K H v d F → ∃ vs, k.has K H vs ∧ vs.length = ds.length ∧ ∀ c ∈ vs.zip ds, ∃ F, OwnE K H c.1 c.2 F
theorem sep_each {K : PySem.W.Frag} {H : Hp} {cs : List (V × D)} {F : Fp} (s : Sep (OwnE K H) cs F) : ∀ c ∈ cs, ∃ F, OwnE K H c.1 c.2 F := fun c m => by
  obtain ⟨v, d⟩ := c
  obtain ⟨i, hi⟩ := List.mem_iff_getElem?.mp m
  obtain ⟨F1, q, _⟩ := s.get hi
  exact ⟨F1, q⟩
theorem seqS_fits {K : PySem.W.Frag} {f : Fm} {H : Hp} {σ : L2.St} {δ : Env} {T : List (V × Rs)} {v : V} {r : Rs} {P : List Rs → List D → Prop} (R : Rp K f H σ δ ((v, r) :: T)) (h : SeqS δ r P) :
    ∃ k xs d ds, v = Sm.x k ∧ k.has K H xs ∧ rsv δ r = some d ∧ P [r] ds ∧ (∀ x ∈ ds, Imm x) ∧ Fits K k v d ds := by
  cases h with
  | @seq r d ds _ h1 h2 h3 p =>
    obtain ⟨F, o⟩ := R.res (v := v) (r := r) (by simp) h1
    cases d with
    | tup xs =>
      cases h2
      obtain ⟨a, vs, rfl, hs, hl, _⟩ := own_tup o
      refine ⟨.T a, vs, _, ds, rfl, hs, h1, p, h3, fun H F o => ?_⟩
      obtain ⟨a', vs', ea, h1, h2, F', s⟩ := own_tup o
      cases ea
      exact ⟨vs', h1, h2, sep_each s⟩
    | lst xs =>
      cases h2
      obtain ⟨a, vs, rfl, hs, hl, _⟩ := own_lst o
      refine ⟨.L a, vs, _, ds, rfl, SqL.of hs, h1, p, h3, fun H F o => ?_⟩
      obtain ⟨a', vs', ea, h1, h2, F', s⟩ := own_lst o
      cases ea
      exact ⟨vs', SqL.of h1, h2, sep_each s⟩
    | fz xs =>
      cases h2
      obtain ⟨a, vs, rfl, hs, hl, _⟩ := own_fz o
      refine ⟨.L a, vs, _, ds, rfl, hs, h1, p, h3, fun H F o => ?_⟩
      obtain ⟨a', vs', ea, h1, h2, F', s⟩ := own_fz o
      cases ea
      exact ⟨vs', h1, h2, sep_each s⟩
    | tk xs =>
      cases h2
      obtain ⟨a, vs, rfl, hs, hl, _⟩ := own_tup o.tkt
      refine ⟨.T a, vs, _, ds, rfl, hs, h1, p, h3, fun H F o => ?_⟩
      obtain ⟨a', vs', ea, h1, h2, F', s⟩ := own_tup o.tkt
      cases ea
      exact ⟨vs', h1, h2, sep_each s⟩
    | _ => cases h2
  | @str z _ p =>
    cases R.vstr (v := v) (i := z) (by simp)
    refine ⟨.S z, signV z, .str z, signs z, rfl, rfl, rfl, p, fun d m => ?_, fun H F o => ⟨signV z, rfl, by simp [signV, signs], fun c m => ?_⟩⟩
    · obtain ⟨c, _, rfl⟩ := List.mem_map.mp m
      exact imm_str
    · obtain ⟨i, hi⟩ := List.mem_iff_getElem?.mp m
      have h1 := List.getElem?_zip_eq_some.mp hi
      obtain ⟨h1, h2⟩ := h1
      unfold signV at h1
      unfold signs at h2
      rw [List.getElem?_map] at h1 h2
      cases q : z.cps.toList[i]? with
      | none => rw [q] at h1; cases h1
      | some cc =>
        rw [q] at h1 h2
        have e1 := Option.some.inj h1
        have e2 := Option.some.inj h2
        refine ⟨fun _ => False, ?_⟩
        rw [← e1, ← e2]
        exact .str
/-- the items with their numbers -/
def enD (ds : List D) : List D := ds.mapIdx fun i d => .tup [.int (i : Nat), d]
theorem enD_get {ds : List D} {i : Nat} {e : D} (h : (enD ds)[i]? = some e) : ∃ d, ds[i]? = some d ∧ e = .tup [.int (i : Nat), d] := by
  unfold enD at h
  rw [List.getElem?_mapIdx] at h
  cases q : ds[i]? with
  | none => rw [q] at h; cases h
  | some d => rw [q] at h; cases h; exact ⟨d, rfl, rfl⟩
theorem enD_len {ds : List D} : (enD ds).length = ds.length := by simp [enD]
def ziD (ds es : List D) : List D := (ds.zip es).map fun c => .tup [c.1, c.2]
theorem ziD_len {ds es : List D} : (ziD ds es).length = min ds.length es.length := by simp [ziD]
theorem ziD_get {ds es : List D} {i : Nat} {e : D} (h : (ziD ds es)[i]? = some e) : ∃ a b, ds[i]? = some a ∧ es[i]? = some b ∧ e = .tup [a, b] := by
  unfold ziD at h
  rw [List.getElem?_map] at h
  cases q : (ds.zip es)[i]? with
  | none => rw [q] at h; cases h
  | some d =>
    rw [q] at h; cases h
    obtain ⟨h1, h2⟩ := List.getElem?_zip_eq_some.mp q
    exact ⟨_, _, h1, h2, rfl⟩
theorem own_pair {K : PySem.W.Frag} {H : Hp} {T : Addr} {x y : V} {a b : D} {F1 F2 : Fp} (hT : H T = none) (o1 : OwnE K H x a F1) (o2 : OwnE K H y b F2) (i1 : Imm a) (i2 : Imm b) : OwnE K (upd H T (.tup [x, y])) (.ref T) (.tup [a, b]) fun _ => False := by
  have t : Tx H (upd H T (.tup [x, y])) := Tx.new hT
  have p1 := (i1 _ _ _ _ o1).frame t (fun _ q => q.elim)
  have p2 := (i2 _ _ _ _ o2).frame t (fun _ q => q.elim)
  refine OwnE.node (F' := fun _ => False) (vs := [x, y]) (SqT.of upd_same) rfl ?_ (fun _ q => q) (fun q => nomatch q)
  exact ⟨fun _ => False, fun _ => False, p1, ⟨fun _ => False, fun _ => False, p2, trivial, fun _ q => q.elim, fun _ q => q, fun _ q => q⟩, fun _ q => q.elim, fun _ q => q, fun _ q => q⟩
theorem gv_enum {K : PySem.W.Frag} {k : Sm} {v : V} {d : D} {ds : List D} (h : Fits K k v d ds) (hi : ∀ x ∈ ds, Imm x) : Gv K (IteK K k) (enD ds) [(v, d)] := fun H g => by
  obtain ⟨F, o⟩ := g (v, d) List.mem_cons_self
  obtain ⟨vs, h1, hl, s⟩ := h H F o
  refine ⟨⟨vs, h1, by rw [enD_len]; exact hl⟩, fun i e he => ?_⟩
  obtain ⟨d', hd, rfl⟩ := enD_get he
  obtain ⟨v', e1, e2⟩ := zip_get hl hd
  refine ⟨⟨vs, v', h1, e1⟩, fun x H' ⟨T, x', ex, hT, eH, y⟩ => ?_⟩
  subst ex eH
  have := y vs h1
  rw [e1] at this
  cases this
  obtain ⟨F1, q⟩ := s _ (List.mem_of_getElem? e2)
  exact ⟨same_new hT, _, own_pair hT (F1 := fun _ => False) .int q imm_int (hi _ (List.mem_of_getElem? hd))⟩
theorem gv_zip {K : PySem.W.Frag} {k l : Sm} {v u : V} {d e : D} {ds es : List D} (h : Fits K k v d ds) (hi : ∀ x ∈ ds, Imm x) (h' : Fits K l u e es) (hi' : ∀ x ∈ es, Imm x) {ss : List (V × D)} (m1 : (v, d) ∈ ss) (m2 : (u, e) ∈ ss) : Gv K (ItzK K k l) (ziD ds es) ss := fun H g => by
  obtain ⟨F, o⟩ := g (v, d) m1
  obtain ⟨G, p⟩ := g (u, e) m2
  obtain ⟨vs, h1, hl, s⟩ := h H F o
  obtain ⟨us, h2, hl2, s2⟩ := h' H G p
  refine ⟨⟨vs, us, h1, h2, by rw [ziD_len, hl, hl2]⟩, fun i e he => ?_⟩
  obtain ⟨a, b, ha, hb, rfl⟩ := ziD_get he
  obtain ⟨v', e1, e2⟩ := zip_get hl ha
  obtain ⟨u', f1, f2⟩ := zip_get hl2 hb
  refine ⟨⟨vs, us, v', u', h1, h2, e1, f1⟩, fun x H' ⟨T, x', y', ex, hT, eH, y, y2⟩ => ?_⟩
  subst ex eH
  have := y vs h1
  rw [e1] at this
  cases this
  have := y2 us h2
  rw [f1] at this
  cases this
  obtain ⟨F1, q⟩ := s _ (List.mem_of_getElem? e2)
  obtain ⟨F2, q2⟩ := s2 _ (List.mem_of_getElem? f2)
  exact ⟨same_new hT, _, own_pair hT q q2 (hi _ (List.mem_of_getElem? ha)) (hi' _ (List.mem_of_getElem? hb))⟩
section
variable {X : Cx} {f : Fm} {δ : Env} {e a b c tg iter : Expr} {es rest tgs : List Expr} {st : Stmt} {sts : List Stmt} {pos p2 : Pos} {Ψ : List Rs → List D → Env → Prop}
variable {N : List Str} {sc : Scope} {Pr : Program} {w : World} {K : PySem.W.Frag} {mg : Str → Option Value} {base : Heap}
theorem enD_imm {ds : List D} (h : ∀ x ∈ ds, Imm x) : ∀ x ∈ enD ds, Imm x := fun x m => by
  obtain ⟨i, hi⟩ := List.mem_iff_getElem?.mp m
  obtain ⟨d, hd, rfl⟩ := enD_get hi
  exact imm_tup (imm_cons imm_int (imm_cons (h _ (List.mem_of_getElem? hd)) imm_nil))
theorem ziD_imm {ds es : List D} (h : ∀ x ∈ ds, Imm x) (h' : ∀ x ∈ es, Imm x) : ∀ x ∈ ziD ds es, Imm x := fun x m => by
  obtain ⟨i, hi⟩ := List.mem_iff_getElem?.mp m
  obtain ⟨a, b, ha, hb, rfl⟩ := ziD_get hi
  exact imm_tup (imm_cons (h _ (List.mem_of_getElem? ha)) (imm_cons (h' _ (List.mem_of_getElem? hb)) imm_nil))
theorem di_enum {p tpos : Pos} {elts : List Expr} {kk : Nat} (B : Bd X N sc) (J : Jn X Pr w K mg base) (hg : Gls sc "enumerate") (hm : mg "enumerate" = none)
    (h : DA X f δ [e] fun rs δ1 => ∃ r, rs = [r] ∧ SeqS δ1 r fun rs ds => Ψ rs (enD ds) δ1) (hs : starEach [e] X.env = [(false, eval e X.env)] := by rfl) : DI X f δ (.Tuple elts kk tpos) (.Call (.Name "enumerate" p) [e] [] pos) Ψ :=
  ⟨pi_imp (pi_enumK (B.glob hg) (by rw [J.mg]; exact hm) h.h hs) fun σ H R ⟨T, Rr, q⟩ => ⟨T, Rr, fun rs δ1 vs H1 ⟨r, er, k⟩ hl R1 => by
    obtain ⟨v, ev, ez⟩ := one_of (T := T) er hl
    subst ev er
    rw [ez] at R1
    obtain ⟨k, xs, d, ds, ev, hh, hd, p, hi, ft⟩ := seqS_fits R1 k
    refine ⟨k, xs, by rw [ev], hh, q [r] (enD ds) [d] δ1 [v] H1 _ p rfl (by unfold rsvs rsvs; rw [hd]) (enD_imm hi) R1 (gv_enum ft hi)⟩⟩⟩
theorem di_zip {p tpos : Pos} {elts : List Expr} {kk : Nat} (B : Bd X N sc) (J : Jn X Pr w K mg base) (hg : Gls sc "zip") (hm : mg "zip" = none)
    (h : DA X f δ [a, b] fun rs δ1 => ∃ r1 r2, rs = [r1, r2] ∧ SeqS δ1 r1 fun ra ds => SeqS δ1 r2 fun rb es => Ψ [r1, r2] (ziD ds es) δ1)
    (hs : starEach [a, b] X.env = (false, eval a X.env) :: starEach [b] X.env := by rfl) (hpl : (backTo pos (starEach [b] X.env)).any (·.1) = false := by rfl) : DI X f δ (.Tuple elts kk tpos) (.Call (.Name "zip" p) [a, b] [] pos) Ψ :=
  ⟨pi_imp (pi_zipK (B.glob hg) (by rw [J.mg]; exact hm) h.h hs hpl) fun σ H R ⟨T, Rr, q⟩ => ⟨T, Rr, fun rs δ1 vs H1 ⟨r1, r2, er, k⟩ hl R1 => by
    obtain ⟨v, u, ev, ez⟩ := two_of (T := T) er hl
    subst ev er
    rw [ez] at R1
    obtain ⟨k1, xs, d, ds, ev, hh, hd, k, hi, ft⟩ := seqS_fits R1 k
    obtain ⟨k2, ys, d2, es, ev2, hh2, hd2, k, hi2, ft2⟩ := seqS_fits R1.tail k
    refine ⟨k1, k2, xs, ys, by rw [ev, ev2], hh, hh2, q [r1, r2] (ziD ds es) [d, d2] δ1 [v, u] H1 _ k rfl (by unfold rsvs rsvs rsvs; rw [hd, hd2]) (ziD_imm hi hi2) R1 (gv_zip ft hi ft2 hi2 (by simp) (by simp))⟩⟩⟩
end
end Dl

namespace Dl
open PySem L2

/-! ### a dict of the module, texts by texts -/
def KD (K : PySem.W.Frag) (w : World) (mg : Str → Option Value) (x : Str) (tab : List (Str × Str)) : Prop :=
  ∃ a es n, mg x = some (.ref a) ∧ KDict K w a es n ∧ ∀ z, ∃ r, PySem.W.nsIn K a z = some r ∧ r.isSome = (tab.lookup z).isSome ∧ ∀ y, tab.lookup z = some y → ∃ u, r = some u ∧ RelV (.str y) u
section
variable {X : Cx} {f : Fm} {δ : Env} {e a b c : Expr} {es rest : List Expr} {st : Stmt} {sts : List Stmt} {pos p2 : Pos} {Ψ : Rs → Env → Prop} {Θ : Bool → Env → Prop} {Λ : List Rs → Env → Prop} {Φ : Ph}
variable {N : List Str} {sc : Scope} {Pr : Program} {w : World} {K : PySem.W.Frag} {mg : Str → Option Value} {base : Heap} {k n m : Nat}
theorem de_opqG {p : Pos} {x : Str} {v : V} {u : Value} (B : Bd X N sc) (J : Jn X Pr w K mg base) (hg : Gls sc x) (hm : mg x = some u) (r : RelV v u) (h : Ψ (.v (.opq v)) δ) (h1 : (x == ("__debug__" : Str)) = false := by first | exact PlN.d (by with_reducible assumption) | decide) : DE X f δ (.Name x p) Ψ := by
  obtain ⟨rfl, rfl, rfl, rfl, rfl⟩ := J
  exact DE.of (pe_glob (B.glob hg) hm r h1) fun σ H Q ⟨T, R, q⟩ => q _ _ _ _ h (R.pushL rfl)
theorem dt_inKD {p : Pos} {x : Str} {tab : List (Str × Str)} (B : Bd X N sc) (J : Jn X Pr w K mg base) (hg : Gls sc x) (T : KD K w mg x tab) (h : DE X f δ a fun ra δ1 => ∃ z, ra = .v (.str z) ∧ Θ (tab.lookup z).isSome δ1)
    (h1 : (x == ("__debug__" : Str)) = false := by first | exact PlN.d (by with_reducible assumption) | decide) : DT X f δ (.Compare a [.In] [.Name x p] pos) Θ := by
  obtain ⟨d, es, n, hm, D, t⟩ := T
  have J' := J
  obtain ⟨rfl, rfl, rfl, rfl, rfl⟩ := J'
  refine DT.of (pt_cmpR (op_in_kd D) (h.mono (Ψ' := fun ra δ1 => DE X f δ1 (.Name x p) fun rb δ2 => ∃ z, ra = .v (.str z) ∧ rb = .v (.opq (.ref d)) ∧ Θ (tab.lookup z).isSome δ2) fun ra δ1 ⟨z, e, q⟩ => de_opqG (v := .ref d) B J hg hm rfl ⟨z, e, rfl, q⟩ h1).h (pe_u (f := f)) rfl) fun σ H Q ⟨T, R, q⟩ => ⟨T, R, fun ra δ1 x H1 hb R1 => ⟨δ1, _, hb, (x, ra) :: T, R1, fun rb δ2 y H2 ⟨z, e1, e2, q2⟩ R2 => ?_⟩⟩
  subst e1 e2
  cases R2.vstr (v := x) (i := z) (by simp)
  cases R2.vleaf (v := y) (w := .ref d) (d := .opq (.ref d)) (by simp) rfl
  obtain ⟨r, h1, h2, h3⟩ := t z
  refine ⟨z, r, rfl, rfl, h1, ?_⟩
  rw [h2]
  exact ⟨_, rfl, q _ _ _ q2 R2.tail2⟩
theorem dt_notinKD {p : Pos} {x : Str} {tab : List (Str × Str)} (B : Bd X N sc) (J : Jn X Pr w K mg base) (hg : Gls sc x) (T : KD K w mg x tab) (h : DE X f δ a fun ra δ1 => ∃ z, ra = .v (.str z) ∧ Θ (!(tab.lookup z).isSome) δ1)
    (h1 : (x == ("__debug__" : Str)) = false := by first | exact PlN.d (by with_reducible assumption) | decide) : DT X f δ (.Compare a [.NotIn] [.Name x p] pos) Θ := by
  obtain ⟨d, es, n, hm, D, t⟩ := T
  have J' := J
  obtain ⟨rfl, rfl, rfl, rfl, rfl⟩ := J'
  refine DT.of (pt_cmpR (op_notIn_kd D) (h.mono (Ψ' := fun ra δ1 => DE X f δ1 (.Name x p) fun rb δ2 => ∃ z, ra = .v (.str z) ∧ rb = .v (.opq (.ref d)) ∧ Θ (!(tab.lookup z).isSome) δ2) fun ra δ1 ⟨z, e, q⟩ => de_opqG (v := .ref d) B J hg hm rfl ⟨z, e, rfl, q⟩ h1).h (pe_u (f := f)) rfl) fun σ H Q ⟨T, R, q⟩ => ⟨T, R, fun ra δ1 x H1 hb R1 => ⟨δ1, _, hb, (x, ra) :: T, R1, fun rb δ2 y H2 ⟨z, e1, e2, q2⟩ R2 => ?_⟩⟩
  subst e1 e2
  cases R2.vstr (v := x) (i := z) (by simp)
  cases R2.vleaf (v := y) (w := .ref d) (d := .opq (.ref d)) (by simp) rfl
  obtain ⟨r, h1, h2, h3⟩ := t z
  refine ⟨z, r, rfl, rfl, h1, ?_⟩
  rw [h2]
  exact ⟨_, rfl, q _ _ _ q2 R2.tail2⟩
theorem de_ixKD {p : Pos} {x : Str} {tab : List (Str × Str)} (B : Bd X N sc) (J : Jn X Pr w K mg base) (hg : Gls sc x) (T : KD K w mg x tab) (h : DE X f δ b fun rb δ1 => ∃ z y, rb = .v (.str z) ∧ tab.lookup z = some y ∧ Ψ (.v (.str y)) δ1)
    (h1 : (x == ("__debug__" : Str)) = false := by first | exact PlN.d (by with_reducible assumption) | decide) (hs : PlainIx b := by exact fun _ _ => rfl) : DE X f δ (.Subscript (.Name x p) b pos) Ψ := by
  obtain ⟨d, es, n, hm, D, t⟩ := T
  have J' := J
  obtain ⟨rfl, rfl, rfl, rfl, rfl⟩ := J'
  refine de_ix2 ix_kdict hs (de_opqG (v := .ref d) B J hg hm rfl (h.mono fun rb δ1 ⟨z, y, e, hl, q⟩ => ?_) h1)
  intro H σ T x' y' Q R q'
  subst e
  cases R.vstr (v := y') (i := z) (by simp)
  cases R.vleaf (v := x') (w := .ref d) (d := .opq (.ref d)) (by simp) rfl
  obtain ⟨r, h1, h2, h3⟩ := t z
  obtain ⟨u, rfl, ru⟩ := h3 y hl
  exact ⟨d, z, .str y, rfl, rfl, ⟨es, n, u, D.at_, D.lit, h1, ru⟩, q' _ _ _ q (R.tail2.pushL rfl)⟩
/-! ### isinstance -/
def tyD : D → Option String
  | .non => some "NoneType"
  | .bl _ => some "bool"
  | .int _ => some "int"
  | .str _ => some "str"
  | .tup _ => some "tuple"
  | .tk _ => some "tuple"
  | .lst _ => some "list"
  | .fz _ => some "list"
  | .dK _ => some "dict"
  | .dT _ => some "dict"
  | _ => none
theorem tyX_of {H : Hp} {v : V} {d : D} {F : Fp} {t : String} (o : OwnE K H v d F) (h : tyD d = some t) : TyX K H v (.type t) := by
  cases d with
  | non => cases h; rw [o.of_non]; exact .base .non
  | bl b => cases h; rw [o.of_bl]; exact .base (.bl b)
  | int i => cases h; rw [o.of_int]; exact .base (.int i)
  | str i => cases h; rw [o.of_str]; exact .base (.str i)
  | tup xs =>
    cases h
    obtain ⟨a, vs, rfl, hs, _⟩ := own_tup o
    rcases hs with (hs | ⟨oo, hs⟩) | ⟨o', its, n, e1, e2, _⟩
    · exact .base (.tup hs)
    · exact .fTuple hs
    · exact .kTuple e1 e2
  | tk xs =>
    cases h
    obtain ⟨a, vs, rfl, hs, _⟩ := own_tup o.tkt
    rcases hs with (hs | ⟨oo, hs⟩) | ⟨o', its, n, e1, e2, _⟩
    · exact .base (.tup hs)
    · exact .fTuple hs
    · exact .kTuple e1 e2
  | lst xs =>
    cases h
    obtain ⟨a, vs, rfl, hs, _⟩ := own_lst o
    exact .base (.lst hs)
  | fz xs =>
    cases h
    obtain ⟨a, vs, rfl, hs, _⟩ := own_fz o
    rcases hs with (hs | ⟨oo, hs⟩) | ⟨o', its, n, e1, e2, _⟩
    · exact .base (.lst hs)
    · exact .base (.frz hs)
    · exact .kList e1 e2
  | dK kvs =>
    cases h
    obtain ⟨a, vs, rfl, h2, _⟩ := o.of_node rfl (fun _ _ q => nomatch q)
    exact .base (.dK h2)
  | dT kvs =>
    cases h
    obtain ⟨a, vs, rfl, h2, _⟩ := o.of_node rfl (fun _ _ q => nomatch q)
    exact .base (.dT h2)
  | _ => cases h
theorem de_tyName {p : Pos} {x : Str} {t : String} (B : Bd X N sc) (J : Jn X Pr w K mg base) (hg : Gls sc x) (hm : mg x = none) (hv : bootBuiltins x = some (.type t)) (h : Ψ (.v (.opq (.ty t))) δ) (hn : x ≠ "__name__" := by first | exact PlN.n (by with_reducible assumption) | decide) (hd : (x == ("__debug__" : Str)) = false := by first | exact PlN.d (by with_reducible assumption) | decide) : DE X f δ (.Name x p) Ψ := by
  obtain ⟨rfl, rfl, rfl, rfl, rfl⟩ := J
  exact DE.of (pe_bltn (B.glob hg) hm hv (show RelV (.ty t) (.type t) from rfl) hn hd) fun σ H Q ⟨T, R, q⟩ => q _ _ _ _ h (R.pushL rfl)
inductive IsiS (δ : Env) : List Rs → (Bool → Prop) → Prop
  | mk {r : Rs} {d : D} {t c : String} {b : Bool} {P : Bool → Prop} : rsv δ r = some d → tyD d = some t → kitB t c = some b → P b → IsiS δ [r, .v (.opq (.ty c))] P
theorem de_isi {p : Pos} (B : Bd X N sc) (J : Jn X Pr w K mg base) (hg : Gls sc "isinstance") (hm : mg "isinstance" = none) (h : DA X f δ [a, b] fun rs δ1 => IsiS δ1 rs fun t => Ψ (.v (.bl t)) δ1)
    (he : starEach [a, b] X.env = (false, eval a X.env) :: starEach [b] X.env := by rfl) (hpl : (backTo pos (starEach [b] X.env)).any (·.1) = false := by rfl) : DE X f δ (.Call (.Name "isinstance" p) [a, b] [] pos) Ψ :=
  de_bltn call_isi B J hg hm (by rfl) (he := he) (hpl := hpl) (h := h.mono fun rs δ1 k => by
    cases k with
    | @mk r d t c b _ h1 h2 h3 k =>
      refine callOk2 fun H σ T v u Q R q => ?_
      obtain ⟨F, o⟩ := R.res (v := v) (r := r) (by simp) h1
      cases R.vleaf (v := u) (w := .ty c) (d := .opq (.ty c)) (by simp) rfl
      exact ⟨v, .ty c, _, _, b, rfl, .ty c, tyX_of o h2, kit_ty h3, q _ _ _ k (R.tail2.pushL rfl)⟩)
/-! ### texts -/
def strsD (ys : List Str) : List D := ys.map .str
inductive JoinS (δ : Env) : Str → Rs → (D → Prop) → Prop
  | mk {s : Str} {r : Rs} {d : D} {ds : List D} {ys : List Str} {P : D → Prop} : rsv δ r = some d → itemsOf d = some ds → ds = strsD ys → (ys.map (·.length)).sum + ys.length * s.length ≤ 16777216 → P (.str (Txt.join s ys)) → JoinS δ s r P
inductive SplitS : Str → Rs → (D → Prop) → Prop
  | mk {s z : Str} {P : D → Prop} : (z.length == 0) = false → s.length + 2 ≤ sizeLine → P (.lst (strsD (Txt.split s z))) → SplitS s (.v (.str z)) P
/-! ### pop(i), index, * n -/
theorem Sep.erase {R : V → D → Fp → Prop} : ∀ {L : List (V × D)} {k : Nat} {F : Fp}, Sep R L F → Sep R (L.eraseIdx k) F
  | [], _, _, h => h
  | _ :: L, 0, _, h => h.tail
  | b :: L, k + 1, _, h => by
    show Sep R (b :: L.eraseIdx k) _
    exact h.under fun G => Sep.erase
theorem zip_erase : ∀ (vs : List V) (ds : List D) (k : Nat), (vs.eraseIdx k).zip (ds.eraseIdx k) = (vs.zip ds).eraseIdx k
  | [], ds, k => by simp
  | v :: vs, [], k => by simp
  | v :: vs, d :: ds, 0 => rfl
  | v :: vs, d :: ds, k + 1 => congrArg ((v, d) :: ·) (zip_erase vs ds k)
theorem erase_len {α β : Type} {vs : List α} {ds : List β} (h : vs.length = ds.length) (k : Nat) : (vs.eraseIdx k).length = (ds.eraseIdx k).length := by
  rw [List.length_eraseIdx, List.length_eraseIdx, h]
inductive PopS (δ : Env) : Rs → List Rs → (D → Env → Prop) → Prop
  | s {j : Nat} {ds : List D} {i : Int} {k : Nat} {d : D} {P : D → Env → Prop} : δ[j]? = some (some (.lst ds)) → 0 ≤ i → i < 2 ^ 63 → k = i.toNat → ds[k]? = some d → Imm d → P d (δ.set j (some (.lst (ds.eraseIdx k)))) → PopS δ (.s j) [.v (.int i)] P
theorem de_popAt {o : Expr} {ap : Pos} (h : DE X f δ o fun ro δ1 => IsLst δ1 ro ∧ DA X f δ1 [e] fun rs δ2 => PopS δ2 ro rs fun d δ4 => Ψ (.v d) δ4)
    (hbase : attributeBase o "pop" X.env (eval o X.env) = eval o X.env := by rfl) (hline : (ap.endLine == pos.line) = true := by rfl) (hs : starEach [e] X.env = (false, eval e X.env) :: starEach [] X.env := by rfl)
    (hfew : ((backTo pos (starEach [e] X.env)).all (fun x => !x.1) && (backToKw pos (keywordEach [] X.env)).all (fun x => x.1.isSome) && decide (([e] : List Expr).length + ([] : List Keyword).length + (if ([] : List Keyword).isEmpty then 0 else 1) < 30)) = true := by rfl) :
    DE X f δ (.Call (.Attribute o "pop" ap) [e] [] pos) Ψ :=
  DE.of (pe_bm PySem.F.plainAttrs_list PySem.F.slot_list_pop PySem.F.type_list_pop mt_popAt h.h (pa_u (f := f)) hbase hfew hline hs) fun σ H Q ⟨T, R, q⟩ => ⟨T, R, fun ro δ1 v H1 ⟨il, k1⟩ R1 => ⟨tyV_lst R1 il, δ1, _, k1, _, R1, fun rs δ2 vs H2 k3 hl R2 => by
    cases k3 with
    | @s j ds i k d _ hj h0 h1 hk hd him kk =>
      obtain ⟨u, eu, ez⟩ := one_of (T := (v, Rs.s j) :: T) rfl hl
      subst eu
      rw [ez] at R2
      cases R2.vint (v := u) (i := i) (by simp)
      have R3 := R2.tail
      have ev := R3.tmp (v, Rs.s j) (by simp) j rfl
      obtain ⟨F, o⟩ := R3.slotv hj ev
      obtain ⟨p, vs, rfl, e1, l1, F1, s1⟩ := own_lst o
      obtain ⟨y, hy, hyz⟩ := zip_get l1 hd
      obtain ⟨F2, oy, _⟩ := s1.get hyz
      have R4 := Rp.pushI R3.tail oy him
      obtain ⟨p', ws, ep, e1', l1', ch⟩ := Rp.lstChange (cs := []) R4 ev hj
      cases ep
      rw [e1] at e1'
      cases e1'
      have hkl : k < ds.length := (List.getElem?_eq_some_iff.mp hd).1
      refine ⟨p, vs, i, k, y, rfl, rfl, e1, by omega, h1, ?_, hy, q _ _ _ _ kk (ch (vs.eraseIdx k) (ds.eraseIdx k) (erase_len l1 k) fun R F s => ?_)⟩
      · unfold seqIndex?
        simp only
        have e0 : (if i < 0 then i + (vs.length : Int) else i) = i := if_neg (by omega)
        rw [e0, if_pos (by simp; omega), hk]
      · rw [zip_erase]
        rw [show ([] : List (V × Rs)).map tc = [] from rfl, List.append_nil] at s
        exact s.erase⟩⟩
inductive IndexS (δ : Env) : Rs → List Rs → (D → Prop) → Prop
  | mk {ro r : Rs} {ns : List Int} {y : Int} {P : D → Prop} : rsv δ ro = some (.lst (ns.map .int)) → rsv δ r = some (.int y) → y ∈ ns → P (.int (ns.idxOf y : Nat)) → IndexS δ ro [r] P
theorem leafs_ints (ns : List Int) : leafs (ns.map D.int) = some (ns.map V.int) := by
  induction ns with
  | nil => rfl
  | cons n ns ih =>
    show (match leaf (D.int n), leafs (ns.map D.int) with
    | some v, some vs => some (v :: vs)
    | _, _ => none) = _
    rw [ih]
    rfl
theorem de_index {o : Expr} {ap : Pos} (h : DE X f δ o fun ro δ1 => IsLst δ1 ro ∧ DA X f δ1 [e] fun rs δ2 => IndexS δ2 ro rs fun d => Ψ (.v d) δ2)
    (hbase : attributeBase o "index" X.env (eval o X.env) = eval o X.env := by rfl) (hline : (ap.endLine == pos.line) = true := by rfl) (hs : starEach [e] X.env = (false, eval e X.env) :: starEach [] X.env := by rfl)
    (hfew : ((backTo pos (starEach [e] X.env)).all (fun x => !x.1) && (backToKw pos (keywordEach [] X.env)).all (fun x => x.1.isSome) && decide (([e] : List Expr).length + ([] : List Keyword).length + (if ([] : List Keyword).isEmpty then 0 else 1) < 30)) = true := by rfl) :
    DE X f δ (.Call (.Attribute o "index" ap) [e] [] pos) Ψ :=
  DE.of (pe_bm PySem.F.plainAttrs_list PySem.F.slot_list_index PySem.F.type_list_index mt_index h.h (pa_u (f := f)) hbase hfew hline hs) fun σ H Q ⟨T, R, q⟩ => ⟨T, R, fun ro δ1 v H1 ⟨il, k1⟩ R1 => ⟨tyV_lst R1 il, δ1, _, k1, _, R1, fun rs δ2 vs H2 k3 hl R2 => by
    cases k3 with
    | @mk r ns y P h1 h2 hm kk =>
      obtain ⟨u, eu, ez⟩ := one_of (T := (v, ro) :: T) rfl hl
      subst eu
      rw [ez] at R2
      obtain ⟨F, o⟩ := R2.res (v := v) (r := ro) (by simp) h1
      obtain ⟨F2, o2⟩ := R2.res (v := u) (r := r) (by simp) h2
      have eu := o2.of_int
      subst eu
      obtain ⟨p, vs, rfl, e1, l1, F1, s1⟩ := own_lst o
      have ev := leafs_own (leafs_ints ns) l1 s1
      subst ev
      have hlt : ns.idxOf y < ns.length := List.idxOf_lt_length_of_mem hm
      refine ⟨p, ns.map V.int, .int y, ns.idxOf y, .int y, rfl, rfl, SqL.of e1, rfl, by simp [flatV], ?_, by simp [eqV], fun m z' hm' hz => ?_, q _ _ _ _ kk (R2.tail2.pushL rfl)⟩
      · rw [List.getElem?_map, List.getElem?_eq_getElem hlt, List.getElem_idxOf hlt]; rfl
      · rw [List.getElem?_map] at hz
        cases q : ns[m]? with
        | none => rw [q] at hz; cases hz
        | some a =>
          rw [q] at hz
          cases hz
          have hne : a ≠ y := fun e => by
            subst e
            obtain ⟨h3, h4⟩ := List.getElem?_eq_some_iff.mp q
            have h5 := List.not_of_lt_findIdx (p := fun x => x == a) (xs := ns) hm'
            simp [h4] at h5
          simp [eqV, hne]⟩⟩
/-- a list times a number -/
inductive MulS (δ : Env) : Rs → Rs → (D → Prop) → Prop
  | int {i j : Int} {P : D → Prop} : CMul i j → P (.int (i * j)) → MulS δ (.v (.int i)) (.v (.int j)) P
  | rep {r : Rs} {ds : List D} {k : Int} {P : D → Prop} : rsv δ r = some (.lst ds) → (∀ x ∈ ds, Imm x) → (-(2 ^ 63) ≤ k ∧ k < 2 ^ 63 ∧ ds.length * k.toNat ≤ sizeLine) → P (.lst (List.replicate k.toNat ds).flatten) → MulS δ r (.v (.int k)) P
theorem rep_len {α β : Type} {vs : List α} {ds : List β} (h : vs.length = ds.length) : ∀ n, (List.replicate n vs).flatten.length = (List.replicate n ds).flatten.length := fun n => by
  simp [h]
theorem rep_zip {vs : List V} {ds : List D} (h : vs.length = ds.length) : ∀ n, (List.replicate n vs).flatten.zip (List.replicate n ds).flatten = (List.replicate n (vs.zip ds)).flatten
  | 0 => rfl
  | n + 1 => by
    rw [List.replicate_succ, List.replicate_succ, List.replicate_succ, List.flatten_cons, List.flatten_cons, List.flatten_cons, zip_app h, rep_zip h n]
theorem op2_rep {K : PySem.W.Frag} {ra : Rs} {ds : List D} {k : Int} {P : D → Prop} (h1 : rsv δ ra = some (.lst ds)) (hi : ∀ x ∈ ds, Imm x) (hk : -(2 ^ 63) ≤ k ∧ k < 2 ^ 63 ∧ ds.length * k.toNat ≤ sizeLine) (p : P (.lst (List.replicate k.toNat ds).flatten)) : Op2 K f δ rRep ra (.v (.int k)) P := fun H σ T x y Q R q => by
  cases R.vint (v := y) (i := k) (by simp)
  obtain ⟨F, o⟩ := R.res (v := x) (r := ra) (by simp) h1
  obtain ⟨l, vs, rfl, e1, l1, F1, s1⟩ := own_lst o
  refine ⟨l, k, vs, rfl, rfl, e1, hk.1, hk.2.1, by rw [l1]; exact hk.2.2, fun p' hp => q _ _ _ p (R.tail2.newI hp (show upd H p' _ p' = _ from upd_same) (rep_len l1 _) fun c m => ?_)⟩
  have m' : c ∈ (List.replicate k.toNat vs).flatten.zip (List.replicate k.toNat ds).flatten := m
  rw [rep_zip l1] at m'
  obtain ⟨z, hz, hc⟩ := List.mem_flatten.mp m'
  rw [(List.mem_replicate.mp hz).2] at hc
  exact sep_imm s1 hi c hc
theorem de_mulG (h : DE X f δ a fun ra δ1 => DE X f δ1 b fun rb δ2 => MulS δ2 ra rb fun d => Ψ (.v d) δ2) : DE X f δ (.BinOp a .Mult b pos) Ψ :=
  de_op2 (OpR.or op_mul op_rep) (h.mono fun _ _ h => h.mono fun _ _ k => by
    cases k with
    | int h1 k => exact op2_l (op2_I (k := fun i j => .int (i * j)) (fun _ _ => rfl) h1 k)
    | rep h1 h2 h3 k => exact op2_r (op2_rep h1 h2 h3 k))
/-- list(range(..)) -/
theorem rgV_len' {a b : Int} : (rgV a b).length = (kids (.lst (rngD a (b - a).toNat))).length := by
  show _ = (rngD a (b - a).toNat).length
  rw [rgV_length, rngD_len]
theorem rg_own {H : Hp} {a b : Int} : ∀ c ∈ (rgV a b).zip (kids (.lst (rngD a (b - a).toNat))), OwnE K H c.1 c.2 fun _ => False := fun c m => by
  have m' : c ∈ ((List.range (b - a).toNat).map fun i => V.int (a + (i : Nat))).zip ((List.range (b - a).toNat).map fun i => D.int (a + (i : Nat))) := m
  rw [List.zip_map'] at m'
  obtain ⟨y, _, rfl⟩ := List.mem_map.mp m'
  exact .int
theorem de_listRg {p p3 : Pos} {pos3 : Pos} (B : Bd X N sc) (J : Jn X Pr w K mg base) (hg : Gls sc "list") (hm : mg "list" = none) (hg2 : Gls sc "range") (hm2 : mg "range" = none)
    (h : DE X f δ a fun r δ1 => ∃ n, r = .v (.int n) ∧ RgOk 0 n ∧ Ψ (.v (.lst (rngD 0 (n - 0).toNat))) δ1)
    (na : starEach [.Call (.Name "range" p3) [a] [] pos3] X.env = (false, eval (.Call (.Name "range" p3) [a] [] pos3) X.env) :: starEach [] X.env := by rfl) (na2 : starEach [a] X.env = (false, eval a X.env) :: starEach [] X.env := by rfl) :
    DE X f δ (.Call (.Name "list" p) [.Call (.Name "range" p3) [a] [] pos3] [] pos) Ψ :=
  DE.of (pe_listRg B.calm (B.glob hg) (by rw [J.mg]; exact hm) (prg_1 (B.glob hg2) (by rw [J.mg]; exact hm2) h.h na2) na) fun σ H Q ⟨T, R, q⟩ => ⟨T, R, fun r δ1 v H1 ⟨n, e, ok, k⟩ R1 => by
    subst e
    cases R1.vint (v := v) (i := n) (by simp)
    exact ⟨n, rfl, ok, fun p hp => q _ _ _ _ k (R1.tail.newI hp (show upd H1 p _ p = _ from upd_same) rgV_len' rg_own)⟩⟩
theorem de_listRg2 {p p3 : Pos} {pos3 : Pos} (B : Bd X N sc) (J : Jn X Pr w K mg base) (hg : Gls sc "list") (hm : mg "list" = none) (hg2 : Gls sc "range") (hm2 : mg "range" = none)
    (h : DE X f δ a fun r δ1 => DE X f δ1 b fun r2 δ2 => ∃ m n, r = .v (.int m) ∧ r2 = .v (.int n) ∧ RgOk m n ∧ Ψ (.v (.lst (rngD m (n - m).toNat))) δ2)
    (na : starEach [.Call (.Name "range" p3) [a, b] [] pos3] X.env = (false, eval (.Call (.Name "range" p3) [a, b] [] pos3) X.env) :: starEach [] X.env := by rfl) (na2 : starEach [a, b] X.env = (false, eval a X.env) :: starEach [b] X.env := by rfl)
    (nb : starEach [b] X.env = (false, eval b X.env) :: starEach [] X.env := by rfl) (hp : (backTo pos3 (starEach [b] X.env)).any (·.1) = false := by rfl) :
    DE X f δ (.Call (.Name "list" p) [.Call (.Name "range" p3) [a, b] [] pos3] [] pos) Ψ :=
  DE.of (pe_listRg B.calm (B.glob hg) (by rw [J.mg]; exact hm) (prg_2 (B.glob hg2) (by rw [J.mg]; exact hm2) h.h (pe_u (f := f)) na2 nb hp) na) fun σ H Q ⟨T, R, q⟩ => ⟨T, R, fun r δ1 v H1 k0 R1 => ⟨δ1, _, k0, _, R1, fun r2 δ2 u H2 ⟨m, n, e, e2, ok, kk⟩ R2 => by
    subst e e2
    cases R2.vint (v := v) (i := m) (by simp)
    cases R2.vint (v := u) (i := n) (by simp)
    exact ⟨m, n, rfl, rfl, ok, fun p hp => q _ _ _ _ kk (R2.tail2.newI hp (show upd H2 p _ p = _ from upd_same) rgV_len' rg_own)⟩⟩⟩
end
end Dl

namespace Dl
open PySem L2
/-! ### what is handed -/
theorem imm_at0 {ds : List D} {pm : List Bool} (h : ∀ d ∈ ds, Imm d) : ImmAt pm ds := fun i d _ h2 => h d (List.mem_of_getElem? h2)
theorem imm_at1 {ds : List D} {pm : List Bool} {x : D} (h : ∀ d ∈ ds, Imm d) : ImmAt (true :: pm) (x :: ds) := fun i d h1 h2 => by
  cases i with
  | zero => cases h1
  | succ i => exact h d (List.mem_of_getElem? (by simpa using h2))
/-! ### cheap looks -/
section
variable {X : Cx} {f : Fm} {δ : Env} {e a b c tg iter elt : Expr} {es rest ifs : List Expr} {st : Stmt} {sts : List Stmt} {pos p2 p3 : Pos} {Ψ : Rs → Env → Prop} {Θ : Bool → Env → Prop} {Λ : List Rs → Env → Prop} {Φ : Ph}
variable {N : List Str} {sc scope : Scope} {Pr : Program} {w : World} {K : PySem.W.Frag} {mg : Str → Option Value} {base : Heap} {k n m : Nat}

theorem g_int (h : DE X f δ (.Call (.Name "int" p2) [e] [] pos) Ψ) : DE X f δ (.Call (.Name "int" p2) [e] [] pos) Ψ := h
theorem g_list (h : DE X f δ (.Call (.Name "list" p2) [e] [] pos) Ψ) : DE X f δ (.Call (.Name "list" p2) [e] [] pos) Ψ := h
theorem g_tuple (h : DE X f δ (.Call (.Name "tuple" p2) [e] [] pos) Ψ) : DE X f δ (.Call (.Name "tuple" p2) [e] [] pos) Ψ := h
theorem g_isi (h : DE X f δ (.Call (.Name "isinstance" p2) [a, b] [] pos) Ψ) : DE X f δ (.Call (.Name "isinstance" p2) [a, b] [] pos) Ψ := h
theorem g_append {o : Expr} (h : DE X f δ (.Call (.Attribute o "append" p2) [e] [] pos) Ψ) : DE X f δ (.Call (.Attribute o "append" p2) [e] [] pos) Ψ := h
theorem g_extend {o : Expr} (h : DE X f δ (.Call (.Attribute o "extend" p2) [e] [] pos) Ψ) : DE X f δ (.Call (.Attribute o "extend" p2) [e] [] pos) Ψ := h
theorem g_pop {o : Expr} (h : DE X f δ (.Call (.Attribute o "pop" p2) [e] [] pos) Ψ) : DE X f δ (.Call (.Attribute o "pop" p2) [e] [] pos) Ψ := h
theorem g_index {o : Expr} (h : DE X f δ (.Call (.Attribute o "index" p2) [e] [] pos) Ψ) : DE X f δ (.Call (.Attribute o "index" p2) [e] [] pos) Ψ := h
theorem g_ixN {x : Str} (h : DE X f δ (.Subscript (.Name x p2) b pos) Ψ) : DE X f δ (.Subscript (.Name x p2) b pos) Ψ := h
theorem g_slice {lo hi : Option Expr} (h : DE X f δ (.Subscript e (.Slice lo hi none p2) pos) Ψ) : DE X f δ (.Subscript e (.Slice lo hi none p2) pos) Ψ := h
theorem g_asg (h : DS X f δ (.Assign [tg] e pos) Φ) : DS X f δ (.Assign [tg] e pos) Φ := h
theorem g_DG {d : D} {sl : List Nat} {Ξ : Env → Prop} (h : DG X f δ tg d sl Ξ) : DG X f δ tg d sl Ξ := h
theorem g_DGs {ds : List D} {sl : List Nat} {Ξ : Env → Prop} (h : DGs X f δ es ds sl Ξ) : DGs X f δ es ds sl Ξ := h
theorem g_DTs (h : DTs X f δ ifs Θ) : DTs X f δ ifs Θ := h
theorem g_DO {o : Option Expr} {Ω : Option Int → Env → Prop} (h : DO X f δ o Ω) : DO X f δ o Ω := h
theorem g_InB {P : Cx → Prop} (h : InB X N sc P) : InB X N sc P := h
theorem g_cmpN {op : CmpOp} {x : Str} (h : DT X f δ (.Compare a [op] [.Name x p2] pos) Θ) : DT X f δ (.Compare a [op] [.Name x p2] pos) Θ := h
theorem pts_imp {t t' : TT} (h : PTs X ifs t) (i : ∀ σ H Q, t' σ H Q → t σ H Q) : PTs X ifs t' := ⟨fun pins s σ H Q I q => h.run pins s σ H Q I (i σ H Q q)⟩
/-- a comprehension that changes nothing, of items g tells (or leaves out) -/
theorem lc_fm {own : List Nat} {rs : List Rs} {ds : List D} {δ1 : Env} (g : D → Option D) (h1 : slots rs = []) (h2 : ds.length < sizeLine)
    (h3 : ∀ (i : Nat) (d : D), ds[i]? = some d → Turn1 X N sc f tg elt ifs own d (clr δ1 own) fun o δ3 => o = g d ∧ δ3 = clr δ1 own) (h4 : Ψ (.v (.lst (ds.filterMap g))) (clr δ1 own)) : LcOk X N sc f tg elt ifs own Ψ rs ds δ1 := by
  refine ⟨h1, h2, fun i acc δ2 => acc = (ds.take i).filterMap g ∧ δ2 = clr δ1 own, ⟨by simp, rfl⟩, ?_, ?_⟩
  · rintro i d acc δ2 hd _ ⟨rfl, rfl⟩
    have hl : ds.take (i + 1) = ds.take i ++ [d] := by rw [List.take_add_one, hd]; rfl
    have fin : ∀ (o : Option D) (δ3 : Env), (o = g d ∧ δ3 = clr δ1 own) → addO ((ds.take i).filterMap g) o = (ds.take (i + 1)).filterMap g ∧ δ3 = clr δ1 own := by
      rintro o δ3 ⟨rfl, rfl⟩
      refine ⟨?_, rfl⟩
      rw [hl, List.filterMap_append]
      cases q : g d with
      | none => simp [addO, q]
      | some e => simp [addO, q]
    exact fun X' b B => (h3 i d hd X' b B).mono fun δ3 h => fun X' b B => ⟨pts_imp (h X' b B).h fun σ H Q ⟨T, R, q⟩ => ⟨T, R, fun t δ4 H' ⟨k1, k2⟩ => q t δ4 H' ⟨fun ht X' b B => (k1 ht X' b B).mono fun r δ5 ⟨e, δ6, tk, p⟩ => ⟨e, δ6, tk, fin _ _ p⟩, fun ht => fin _ _ (k2 ht)⟩⟩⟩
  · rintro acc δ2 ⟨rfl, rfl⟩
    rw [List.take_length]
    exact h4
theorem lc_none {own : List Nat} {rs : List Rs} {ds : List D} {δ1 : Env} (h1 : slots rs = []) (h2 : ds.length < sizeLine)
    (h3 : ∀ (i : Nat) (d : D), ds[i]? = some d → Turn1 X N sc f tg elt ifs own d (clr δ1 own) fun o δ3 => o = none ∧ δ3 = clr δ1 own) (h4 : Ψ (.v (.lst [])) (clr δ1 own)) : LcOk X N sc f tg elt ifs own Ψ rs ds δ1 := by
  refine lc_fm (fun _ => none) h1 h2 h3 ?_
  rw [show ds.filterMap (fun _ => (none : Option D)) = [] by simp]
  exact h4
end
theorem kb_NoneType_bool : kitB "NoneType" "bool" = some false := by decide +kernel
theorem kb_NoneType_str : kitB "NoneType" "str" = some false := by decide +kernel
theorem kb_NoneType_int : kitB "NoneType" "int" = some false := by decide +kernel
theorem kb_bool_bool : kitB "bool" "bool" = some true := by decide +kernel
theorem kb_bool_int : kitB "bool" "int" = some true := by decide +kernel
theorem kb_int_bool : kitB "int" "bool" = some false := by decide +kernel
theorem kb_int_str : kitB "int" "str" = some false := by decide +kernel
theorem kb_int_int : kitB "int" "int" = some true := by decide +kernel
theorem kb_str_bool : kitB "str" "bool" = some false := by decide +kernel
theorem kb_str_str : kitB "str" "str" = some true := by decide +kernel
theorem kb_str_int : kitB "str" "int" = some false := by decide +kernel
theorem kb_tuple_bool : kitB "tuple" "bool" = some false := by decide +kernel
theorem kb_tuple_str : kitB "tuple" "str" = some false := by decide +kernel
theorem kb_tuple_int : kitB "tuple" "int" = some false := by decide +kernel
theorem kb_tuple_tuple : kitB "tuple" "tuple" = some true := by decide +kernel
theorem kb_tuple_list : kitB "tuple" "list" = some false := by decide +kernel
theorem kb_list_bool : kitB "list" "bool" = some false := by decide +kernel
theorem kb_list_str : kitB "list" "str" = some false := by decide +kernel
theorem kb_list_int : kitB "list" "int" = some false := by decide +kernel
theorem kb_list_tuple : kitB "list" "tuple" = some false := by decide +kernel
theorem kb_list_list : kitB "list" "list" = some true := by decide +kernel
section
variable {A B : Prop}
theorem br_rev {t : Bool} (h : (t = true → A) ∧ (t = false → B)) : (t = false → B) ∧ (t = true → A) := ⟨h.2, h.1⟩
theorem br_T {t : Bool} (e : t = true) (h : A) : (t = true → A) ∧ (t = false → B) := ⟨fun _ => h, fun q => by rw [e] at q; cases q⟩
theorem br_F {t : Bool} (e : t = false) (h : B) : (t = true → A) ∧ (t = false → B) := ⟨fun q => by rw [e] at q; (cases q), fun _ => h⟩
end
theorem unp_all {f : Fm} {l js : List Nat} (h : f.pn = l) (a : (js.all fun i => l.all (· != i)) = true) : ∀ j ∈ js, Unp f j := fun j m => unp_of h (List.all_eq_true.mp a j m)
theorem eqD_nil {ds : List D} : eqD (.lst ds) (.lst []) = ds.isEmpty := by
  cases ds <;> rfl
section
variable {X : Cx} {f : Fm} {δ : Env} {a b : Expr} {es : List Expr} {pos p2 : Pos} {Θ : Bool → Env → Prop} {Ψ : Rs → Env → Prop} {k n : Nat}
theorem eqs_nil {ra : Rs} {ds : List D} {P : Bool → Prop} (h : rsv δ ra = some (.lst ds)) (hs : Shp n (.lst ds)) (hn : n ≤ 64) (hk : P ds.isEmpty) : EqS δ ra (.v (.lst [])) P :=
  .mk h rfl hs (shp_lst (n := 0) fun _ m => nomatch m) hn (by decide) (by rw [eqD_nil]; exact hk)
theorem g_neLst (h : DT X f δ (.Compare a [.NotEq] [.List es p2] pos) Θ) : DT X f δ (.Compare a [.NotEq] [.List es p2] pos) Θ := h
theorem g_eqLst (h : DT X f δ (.Compare a [.Eq] [.List es p2] pos) Θ) : DT X f δ (.Compare a [.Eq] [.List es p2] pos) Θ := h
theorem shp_all_nil : ∀ x ∈ ([] : List D), Shp n x := fun _ m => nomatch m
theorem shp_all_cons {d : D} {ds : List D} (h : Shp n d) (t : ∀ x ∈ ds, Shp n x) : ∀ x ∈ d :: ds, Shp n x := fun x m => (List.mem_cons.mp m).elim (fun e => e ▸ h) (t x)
theorem shp_all_map {α : Type} {l : List α} {g : α → D} (h : ∀ a, Shp n (g a)) : ∀ x ∈ l.map g, Shp n x := fun x m => by
  obtain ⟨i, _, rfl⟩ := List.mem_map.mp m
  exact h i
end
theorem imm_cut {xs : List D} {lo hi : Option Int} (h : ∀ x ∈ xs, Imm x) : ∀ x ∈ cutA xs lo hi, Imm x := fun x m => h x (cutA_mem m)
theorem cutA_tail {α : Type} {x : α} {xs : List α} : cutA (x :: xs) (some 1) none = xs := by
  unfold cutA HT.sIx
  simp
theorem atI_zero {α : Type} {x : α} {xs : List α} : atI (x :: xs) 0 = some x := by
  unfold atI ixN
  rw [if_pos (by decide), if_pos (by simp)]
  rfl
theorem map_get {α : Type} {l : List α} {g : α → D} {i : Nat} {d : D} (h : (l.map g)[i]? = some d) : ∃ a, l[i]? = some a ∧ d = g a := by
  rw [List.getElem?_map] at h
  cases q : l[i]? with
  | none => rw [q] at h; cases h
  | some a => rw [q] at h; exact ⟨a, rfl, (Option.some.inj h).symm⟩
theorem signs_get {z : Str} {i : Nat} {d : D} (h : (signs z)[i]? = some d) : ∃ c, z.cps.toList[i]? = some c ∧ d = .str ⟨#[c]⟩ := map_get h
theorem dgs_name {X : Cx} {f : Fm} {δ : Env} {e : Expr} {es : List Expr} {Ψ : Env → Prop} {d : D} {ds : List D} {j : Nat} {s2 : List Nat} (h : DG X f δ e d [j] fun δ1 => DGs X f δ1 es ds s2 Ψ) (hs : (assignEach (e :: es) X.env).map (·.2) = assign e X.env :: (assignEach es X.env).map (·.2) := by rfl) : DGs X f δ (e :: es) (d :: ds) (j :: s2) Ψ :=
  dgs_cons h hs
/-! targets, without the slots told -/
def tGw (K : PySem.W.Frag) (f : Fm) (δ : Env) (d : D) (Ψ : Env → Prop) : TG := fun v σ H Q => ∃ T, Rp K f H σ δ ((v, .v d) :: tv T) ∧ ∀ δ' σ' H', Ψ δ' → Rp K f H' σ' δ' (tv T) → Q σ' H'
def tGsw (K : PySem.W.Frag) (f : Fm) (δ : Env) (ds : List D) (Ψ : Env → Prop) : TGs := fun vs σ H Q => ∃ T, vs.length = ds.length ∧ Rp K f H σ δ (vs.zip (ds.map Rs.v) ++ tv T) ∧ ∀ δ' σ' H', Ψ δ' → Rp K f H' σ' δ' (tv T) → Q σ' H'
structure DGw (X : Cx) (f : Fm) (δ : Env) (tg : Expr) (d : D) (Ψ : Env → Prop) : Prop where
  h : PG X tg (tGw X.K f δ d Ψ)
structure DGsw (X : Cx) (f : Fm) (δ : Env) (tgs : List Expr) (ds : List D) (Ψ : Env → Prop) : Prop where
  h : PGs X tgs (tGsw X.K f δ ds Ψ)
section
variable {X : Cx} {f : Fm} {δ : Env} {e a b c tg : Expr} {es : List Expr} {pos : Pos} {Ψ : Env → Prop} {Φ : Ph} {N : List Str} {sc : Scope}
def uGw (X : Cx) (f : Fm) (tg : Expr) : TG := fun v σ H Q => ∃ δ d Ψ, DGw X f δ tg d Ψ ∧ tGw X.K f δ d Ψ v σ H Q
def uGsw (X : Cx) (f : Fm) (tgs : List Expr) : TGs := fun v σ H Q => ∃ δ d Ψ, DGsw X f δ tgs d Ψ ∧ tGsw X.K f δ d Ψ v σ H Q
theorem pg_uw : PG X tg (uGw X f tg) := ⟨fun pins s σ H v u Q I r ⟨_, _, _, h, q⟩ => h.h.run pins s σ H v u Q I r q⟩
theorem pgs_uw : PGs X es (uGsw X f es) := ⟨fun pins s σ H v u Q I r ⟨_, _, _, h, q⟩ => h.h.run pins s σ H v u Q I r q⟩
theorem DG.w {d : D} {sl : List Nat} (h : DG X f δ tg d sl Ψ) : DGw X f δ tg d Ψ := ⟨pg_imp h.h fun v σ H Q ⟨T, R, q⟩ => ⟨T, R, fun δ' σ' H' k _ _ R' => q δ' σ' H' k R'⟩⟩
theorem dgw_name {i : Nat} {x : Str} {d : D} (B : Bd X N sc) (hi : Sl N i x) (hx : Sto X sc x) (hu : Unp f i) (k : Ψ (δ.set i (some d))) : DGw X f δ (.Name x pos) d Ψ := (dg_name B hi hx hu k).w
theorem dgsw_nil (k : Ψ δ) : DGsw X f δ [] [] Ψ := ⟨pgs_imp pgs_nil fun vs σ H Q ⟨T, hl, R, q⟩ => by
  cases vs with
  | nil => exact ⟨rfl, q δ σ H k R⟩
  | cons _ _ => cases hl⟩
theorem dgsw_cons {d : D} {ds : List D} (h : DGw X f δ e d fun δ1 => DGsw X f δ1 es ds Ψ) (hs : (assignEach (e :: es) X.env).map (·.2) = assign e X.env :: (assignEach es X.env).map (·.2) := by rfl) : DGsw X f δ (e :: es) (d :: ds) Ψ :=
  ⟨pgs_imp (pgs_cons h.h (pgs_uw (f := f)) hs) fun vs σ H Q ⟨T, hl, R, q⟩ => by
    cases vs with
    | nil => cases hl
    | cons v vs =>
      have hl' : vs.length = ds.length := by simpa using hl
      refine ⟨v, vs, rfl, vs.zip ds ++ T, ?_, fun δ1 σ1 H1 k R1 => ?_⟩
      · rw [tv_zip]
        exact R
      · rw [tv_zip] at R1
        exact ⟨δ1, ds, Ψ, k, T, hl', R1, q⟩⟩
theorem dgw_tup {k : Nat} {ds : List D} (B : Bd X N sc) (h : DGsw X f δ es ds Ψ) (hn : (assignEach es X.env).length = ds.length := by rfl) (hst : (assignEach es X.env).findIdx? (·.1) = none := by rfl) : DGw X f δ (.Tuple es k pos) (.tup ds) Ψ :=
  ⟨pg_imp (pg_tup B.calm h.h hn hst) fun v σ H Q ⟨T, R, q⟩ => by
    obtain ⟨a, vs, ev, hs, hl, R1⟩ := R.untup
    exact ⟨a, vs, ev, hs, hl, T, hl, R1, q⟩⟩
theorem ds_asgW (h : DE X f δ e fun r δ1 => ∃ d δ2, Take δ1 r d δ2 ∧ DGw X f δ2 tg d Φ.nx) (hs : swapsWithSole [tg] e pos.line X.env = pure false := by rfl) (hw : swappedStores [tg] e X.env = pure none := by rfl)
    (h1 : (assignEach [tg] X.env).map (·.2) = [assign tg X.env] := by rfl) : DS X f δ (.Assign [tg] e pos) Φ :=
  DS.of (ps_asg h.h (pg_uw (f := f)) hs hw h1) fun E σ H ⟨T, R, n, r, b, c⟩ => ⟨tv T, R, fun r' δ1 v H1 ⟨d, δ2, t, k⟩ R1 => ⟨δ2, d, _, k, T, t.rp R1, n⟩⟩
theorem g_DGw {d : D} {Ξ : Env → Prop} (h : DGw X f δ tg d Ξ) : DGw X f δ tg d Ξ := h
theorem g_DGsw {ds : List D} {Ξ : Env → Prop} (h : DGsw X f δ es ds Ξ) : DGsw X f δ es ds Ξ := h
end
/-! ### what the top leaves -/
def FnAt (K : PySem.W.Frag) (x : Str) (st : Stmt) : Prop := ∃ f fd, PySem.W.nsIn K mainGlobals x = some (some (.ref f)) ∧ L2.Fun K x x st f fd
theorem fnAt_mk {K : PySem.W.Frag} {x : Str} {st : Stmt} {f : Addr} {od an : Option Addr} {sl : Array (Option Value)} {oc kV dc pm cd ct : Value} (a : PySem.W.nsIn K mainGlobals x = some (some (.ref f)))
    (l : K.lookup f = some ⟨oc, od, .func (PySem.W.fnOf x x (defArgs st) (defBody st) (defScope st) .none kV dc pm an cd ct), sl⟩) (c : PySem.W.codeIn K cd x = true) (k : PySem.W.keepIn K (.ref f) = true) : FnAt K x st :=
  ⟨f, _, a, fun_mk l c k⟩
section
variable {Pr : Program} {w : World} {K : PySem.W.Frag} {mg : Str → Option Value} {base h : Heap}
theorem FnAt.g {k n : Nat} {x : Str} {st : Stmt} {ps : List Str} {pre : Pre} (F : FnAt K x st) (X : K.In h) (G : h.Ns mainGlobals mg) (hb : ∀ f fd, L2.Fun K x x st f fd → Binds K fd ps []) (hl : ps.length = n)
    (ok : ∀ f fd, L2.Fun K x x st f fd → FnOk Pr w K mg base CX0 k f fd ps (spD K n pre)) : GFn Pr w K mg base k x n pre := by
  obtain ⟨f, fd, a, F⟩ := F
  exact ⟨f, fd, ps, PySem.W.mg_of X G a, F.kp, hb f fd F, ok f fd F⟩
theorem globD_mk {x : Str} {u : Value} {v : V} {d : D} (X : K.In h) (G : h.Ns mainGlobals mg) (a : PySem.W.nsIn K mainGlobals x = some (some u)) (r : RelV v u) (l : leaf d = some v) : GlobD K mg x d :=
  ⟨imm_leaf l, v, u, PySem.W.mg_of X G a, r, fun H => .leaf l⟩
inductive KdEs : List DictEntry → List (Str × Str) → Prop
  | nil : KdEs [] []
  | cons {hsh : Int} {x y : Str} {t u : Tok} {es : List DictEntry} {tab : List (Str × Str)} : KdEs es tab → KdEs (⟨hsh, .str x t, .str y u⟩ :: es) ((x, y) :: tab)
theorem kdEs_find {z : Str} : ∀ {es : List DictEntry} {tab : List (Str × Str)}, KdEs es tab → es.any (·.refKey) = false ∧ ∃ r, es.find? (·.key.isStr z) = r ∧ r.isSome = (tab.lookup z).isSome ∧ ∀ y, tab.lookup z = some y → ∃ e, r = some e ∧ RelV (.str y) e.val
  | _, _, .nil => ⟨rfl, none, rfl, rfl, fun _ h => nomatch h⟩
  | _, _, @KdEs.cons hsh x y t u es tab h => by
    obtain ⟨h1, r, h2, h3, h4⟩ := kdEs_find (z := z) h
    refine ⟨by rw [List.any_cons, h1]; rfl, ?_⟩
    by_cases q : x = z
    · subst q
      refine ⟨some ⟨hsh, .str x t, .str y u⟩, ?_, ?_, fun y' e => ⟨_, rfl, ?_⟩⟩
      · rw [List.find?_cons]
        have : (DictEntry.mk hsh (.str x t) (.str y u)).key.isStr x = true := by simp [Value.isStr]
        rw [this]
      · simp [List.lookup]
      · have e' : y = y' := by simpa [List.lookup] using e
        subst e'
        exact ⟨u, rfl⟩
    · refine ⟨r, ?_, ?_, ?_⟩
      · rw [List.find?_cons]
        have : (DictEntry.mk hsh (.str x t) (.str y u)).key.isStr z = false := by simp [Value.isStr, q]
        rw [this]
        exact h2
      · have : (z == x) = false := by simp; exact fun e => q e.symm
        rw [h3, List.lookup_cons, this]
      · have : (z == x) = false := by simp; exact fun e => q e.symm
        rw [List.lookup_cons, this]
        exact h4
theorem kd_mk {x : Str} {a : Addr} {es : List DictEntry} {n : Nat} {tab : List (Str × Str)} (X : K.In h) (G : h.Ns mainGlobals mg) (h1 : PySem.W.nsIn K mainGlobals x = some (some (.ref a))) (h2 : K.lookup a = some ⟨.type "dict", none, .dict ⟨es⟩ n, #[]⟩)
    (h3 : PySem.W.KeysLit w.params es) (h4 : (a == sysModules) = false) (h5 : KdEs es tab) : KD K w mg x tab := by
  refine ⟨a, ⟨es⟩, n, PySem.W.mg_of X G h1, ⟨h2, h3, h4⟩, fun z => ?_⟩
  obtain ⟨q1, r, q2, q3, q4⟩ := kdEs_find (z := z) h5
  unfold PySem.W.nsIn
  rw [h2]
  show ∃ r, (match es.find? (·.key.isStr z) with
      | some e => some (some e.val)
      | none => if es.any (·.refKey) then none else some none) = some r ∧ _
  rw [q2, q1]
  cases r with
  | none => exact ⟨none, rfl, q3, fun y e => by obtain ⟨_, e1, _⟩ := q4 y e; cases e1⟩
  | some e => exact ⟨some e.val, rfl, q3, fun y e1 => by obtain ⟨e2, e3, e4⟩ := q4 y e1; cases e3; exact ⟨_, rfl, e4⟩⟩
end
end Dl

namespace Dl
open PySem L2
/-! ### walking over a list that stands in a slot -/
section
variable {X X' : Cx} {f : Fm} {δ : Env} {e a b c tg iter elt : Expr} {es rest tgs ifs : List Expr} {st : Stmt} {sts : List Stmt} {pos p2 : Pos} {Ψ : Rs → Env → Prop} {Φ : Ph}
variable {N : List Str} {sc scope : Scope} {Pr : Program} {w : World} {K : PySem.W.Frag} {mg : Str → Option Value} {base : Heap}
structure LcOkS (X : Cx) (N : List Str) (sc : Scope) (f : Fm) (tg elt : Expr) (ifs : List Expr) (own : List Nat) (Ψ : Rs → Env → Prop) (rs : List Rs) (ds : List D) (δ1 : Env) : Prop where
  ex : ∃ j : Nat, rs = [.s j] ∧ j ∉ own ∧ ds.length < sizeLine ∧ ∃ I : Nat → List D → Env → Prop, I 0 [] (clr δ1 own) ∧ (∀ i acc δ2 d, δ1[j]? = some (some d) → I i acc δ2 → δ2[j]? = some (some d)) ∧
      (∀ (i : Nat) (d : D) acc δ2, ds[i]? = some d → acc.length ≤ i → I i acc δ2 → Turn1 X N sc f tg elt ifs own d δ2 fun o δ3 => I (i + 1) (addO acc o) δ3) ∧ ∀ acc δ2, I ds.length acc δ2 → Ψ (.v (.lst acc)) δ2
theorem lc_readS {own : List Nat} (hp : ∀ j ∈ own, Unp f j) : ∀ σ H Q, tE X.K f δ Ψ σ H Q → tLc (tI X.K f δ (LcOkS X N (rl scope sc) f tg elt ifs own Ψ)) (bG X N (rl scope sc) f tg) (bT X N (rl scope sc) f ifs) (bE X N (rl scope sc) f elt) own σ H Q := by
  refine fun σ H Q ⟨T0, R0, q⟩ => ⟨T0, R0, fun rs ds es δ1 vs H1 J ⟨j0, hsl, hno, hsz, I, i0, ij, st, en⟩ hl he him R1 gv Dl hD => ?_⟩
  obtain ⟨v0, ev0, ez⟩ := one_of (T := T0) hsl hl
  subst ev0 hsl
  rw [ez] at R1
  have hv0 : σ[j0]? = some (some v0) := R1.tmp (v0, .s j0) (by simp) j0 rfl
  obtain ⟨d0, rfl, hd0⟩ : ∃ d0, es = [d0] ∧ δ1[j0]? = some (some d0) := by
    unfold rsvs at he
    unfold rsvs at he
    cases q : rsv δ1 (.s j0) with
    | none => rw [q] at he; cases he
    | some d => rw [q] at he; cases he; exact ⟨d, rfl, get_join q⟩
  have R1p : Rp X.K f H1 σ δ1 (tv (plain T0)) := by
    have := R1.tail.toPlain
    exact this
  have hwc : ∀ {σ : St}, (wipe σ own).length = σ.length := wipe_length _ _
  have hwg : ∀ {σ : St} (j : Nat), j ∉ own → (wipe σ own)[j]? = σ[j]? := fun j hj => by rw [wipe_get]; simp [hj]
  have hwv : (wipe σ own)[j0]? = some (some v0) := (hwg j0 hno).trans hv0
  have src : ∀ {H2 : Hp} {i : Nat} {acc : List D} {δ2 : Env} {T : List (V × Rs)}, I i acc δ2 → Rp X.K f H2 (wipe σ own) δ2 T → ∀ c ∈ [v0].zip [d0], ∃ F, OwnE X.K H2 c.1 c.2 F := fun k2 R2 c m => by
    have e : c = (v0, d0) := by simpa using m
    subst e
    exact R2.slotv (ij _ _ _ d0 hd0 k2) hwv
  -- the list under work at Dl, the sources, the rest
  refine ⟨fun i m H2 => m = ds.length - i ∧ i ≤ ds.length ∧ ∃ acc δ2, acc.length ≤ i ∧ I i acc δ2 ∧ Rp X.K f H2 (wipe σ own) δ2 (tv ((.ref Dl, .lst acc) :: (plain T0))),
    ⟨ds.length, by simp, Nat.zero_le _, [], _, Nat.le_refl _, i0, ?_⟩, ?_⟩
  · have R2 : Rp X.K f (upd H1 Dl (.lst [])) σ δ1 (tv ((.ref Dl, .lst []) :: (plain T0))) := Rp.newI (vs := []) R1p hD (show upd H1 Dl _ Dl = _ from upd_same) rfl fun c m => nomatch m
    exact R2.cleared hwc (fun j hj => hwg j hj) hp
  · rintro i m H2 ⟨rfl, hi, acc, δ2, hacc, k2, R2⟩
    obtain ⟨g1, g2⟩ := gv H2 (src k2 R2)
    by_cases hlt : i < ds.length
    · have hd : ds[i]? = some ds[i] := List.getElem?_eq_getElem hlt
      obtain ⟨gg, gy⟩ := g2 i _ hd
      refine .inr ⟨gg, fun H' => ∃ acc' δ', acc'.length ≤ i + 1 ∧ I (i + 1) acc' δ' ∧ Rp X.K f H' (wipe σ own) δ' (tv ((.ref Dl, .lst acc') :: (plain T0))), fun H' ⟨acc', δ', h1, k', R'⟩ => ⟨ds.length - (i + 1), by omega, rfl, hlt, acc', δ', h1, k', R'⟩, fun x H' y => ?_⟩
      obtain ⟨sm, F, o⟩ := gy x H' y
      have tn := st i _ acc δ2 hd hacc k2
      unfold Turn1 at tn
      refine ⟨δ2, _, own, _, tn, (.ref Dl, .lst acc) :: (plain T0), (R2.same sm).pushI o (him _ (List.getElem_mem _)), fun δ3 σ3 H3 k3 l3 s3 R3 => ⟨?_, δ3, _, k3, _, R3, fun t δ4 H4 k4 R4 => ?_⟩⟩
      · have w0 : wipe (wipe σ own) own = wipe σ own := wipe_eq hwc fun j hj => hwg j hj
        rw [wipe_eq l3 s3, w0]
      · have back : ∀ {H5 : Hp} {δ5 : Env} {acc' : List D}, Rp X.K f H5 σ3 δ5 (tv ((.ref Dl, .lst acc') :: (plain T0))) → Rp X.K f H5 (wipe σ own) (clr δ5 own) (tv ((.ref Dl, .lst acc') :: (plain T0))) := fun R5 => R5.cleared l3.symm (fun j hj => (s3 j hj).symm) hp
        cases t with
        | true =>
          show bE X N (rl scope sc) f elt σ3 H4 _
          refine ⟨δ4, _, k4.1 rfl, _, R4, fun r δ5 v5 H5 ⟨e, δ6, tk, k6⟩ R5 => ?_⟩
          have R6 := tk.rp R5
          have R7 : Rp X.K f H5 σ3 δ6 ((.ref Dl, .v (.lst acc)) :: ([(v5, Rs.v e)] ++ tv (plain T0))) := R6.perm (List.Perm.swap _ _ _)
          obtain ⟨ws, n1, l1, ch⟩ := R7.change rfl
          have l1' : ws.length = acc.length := l1
          refine ⟨ws, n1, by omega, addO acc (some e), _, ?_, k6, ?_⟩
          · show (acc ++ [e]).length ≤ i + 1
            simp; exact hacc
          · refine back (ch _ (.lst (acc ++ [e])) (ws ++ [v5]) (show upd H5 Dl _ Dl = _ from upd_same) rfl (by simp [kids, l1']) (fun F s => ?_) fun o u z => by rw [show H5 Dl = some (.lst ws) from n1] at z; cases z)
            show Sep _ ((ws ++ [v5]).zip (acc ++ [e])) F
            rw [zip_app l1']
            exact s
        | false =>
          show ∃ acc' δ', _
          exact ⟨acc, _, by omega, k4.2 rfl, back R4⟩
    · have e : i = ds.length := by omega
      subst e
      refine .inl ⟨g1, ?_⟩
      -- the sources dropped, the slots' references again
      have R3 := R2
      exact q _ _ _ _ (en acc δ2 k2) (Rp.ofPlain (R3.unwipe hp) R0)

theorem de_lcS {own : List (Str × Nat)} (B : Bd X N sc) (ok : BlkOk N sc scope own) (hp : ∀ j ∈ own.map (·.2), Unp f j)
    (h : DI X f δ tg iter (LcOkS X N (rl scope sc) f tg elt ifs (own.map (·.2)) Ψ)) (hs : ∀ x, foldedSetIterable iter X.env x = pure x := by intro _; rfl) : DE X f δ (.ListComp elt [⟨tg, iter, ifs, 0⟩] scope pos) Ψ :=
  DE.of (pe_lc (own := own) B.calm B.ndX h.h (by rw [B.eN, B.eS]; exact ok) (fun _ _ _ _ _ => bG_ok B) (fun _ _ _ _ _ => bT_ok B) (fun _ _ _ _ _ => bE_ok B) hs) (lc_readS hp)
theorem sw_of {gs : List Comprehension} {py : Pos} {y : Str} {l : Nat} (B : Bd X N sc) (hk : sc.kind = .function) (hy : Nm sc y .local) (hl : (py.line == pos.line) = true) (ha : (scope.names.any fun (n, k) => n == y && (k == .local || k == .cell)) = false) : swapsWith (.ListComp elt gs scope pos) (some (.Name y py)) l X.env = pure true :=
  sw_true (by rw [B.eS]; exact hk) (by rw [B.eS]; exact hy) hl ha
theorem sw_cell {gs : List Comprehension} {py : Pos} {y : Str} {l : Nat} (B : Bd X N sc) (hy : Nm sc y .cell) : swapsWith (.ListComp elt gs scope pos) (some (.Name y py)) l X.env = pure false := by
  have ky : X.env.kindOf y = some .cell := by
    show X.env.scope.names.lookup y = _
    rw [B.eS]
    exact hy
  unfold swapsWith
  simp only [ky]
  rw [show (some NameKind.cell == some NameKind.local) = false from rfl]
  simp
theorem ds_setLcS {own : List (Str × Nat)} {i : Nat} {y : Str} {py spos : Pos} (B : Bd X N sc) (hi : Sl N i y) (hy : Nm sc y .local) (hu : Unp f i) (hsw : swapsWith (.ListComp elt [⟨tg, iter, ifs, 0⟩] scope pos) (some (.Name y py)) spos.line X.env = pure true) (ok : BlkOk N sc scope own) (hp : ∀ j ∈ own.map (·.2), Unp f j)
    (h : DI X f δ tg iter (LcOkS X N (rl scope sc) f tg elt ifs (own.map (·.2)) fun r δ1 => ∃ d δ2, Take δ1 r d δ2 ∧ Φ.nx (δ2.set i (some d)))) (hs : ∀ x, foldedSetIterable iter X.env x = pure x := by intro _; rfl) : DS X f δ (.Assign [.Name y py] (.ListComp elt [⟨tg, iter, ifs, 0⟩] scope pos) spos) Φ :=
  DS.of (ps_setLc (own := own) B.calm B.ndX (B.ix hi) (by rw [B.eS]; exact hy) hsw h.h (by rw [B.eN, B.eS]; exact ok) (fun _ _ _ _ _ => bG_ok B) (fun _ _ _ _ _ => bT_ok B) (fun _ _ _ _ _ => bE_ok B) hs) fun E σ H ⟨T, R, n, r, b, c⟩ =>
    lc_readS hp σ H _ ⟨tv T, R, fun r δ1 v H1 ⟨d, δ2, t, k⟩ R1 => n _ _ _ k ((t.rp R1).store hu tv_ns)⟩
theorem lc_mapAS {α : Type} {own : List Nat} {rs : List Rs} {ds : List D} {δ1 : Env} (l : List α) (u g : α → D) (j : Nat) (hds : ds = l.map u) (h0 : rs = [.s j]) (h1 : j ∉ own) (h2 : l.length < sizeLine)
    (h3 : ∀ (i : Nat) (a : α), l[i]? = some a → Turn1 X N sc f tg elt ifs own (u a) (clr δ1 own) fun o δ3 => o = some (g a) ∧ δ3 = clr δ1 own) (h4 : Ψ (.v (.lst (l.map g))) (clr δ1 own)) : LcOkS X N sc f tg elt ifs own Ψ rs ds δ1 := by
  subst hds
  refine ⟨⟨j, h0, h1, by rw [List.length_map]; exact h2, fun i acc δ2 => acc = (l.take i).map g ∧ δ2 = clr δ1 own, ⟨by simp, rfl⟩, ?_, ?_, ?_⟩⟩
  · rintro i acc δ2 d hd ⟨_, rfl⟩
    rw [clr_get, if_neg (fun q => h1 q.1)]
    exact hd
  · rintro i d acc δ2 hd _ ⟨rfl, rfl⟩
    obtain ⟨a, ha, rfl⟩ := map_get hd
    have hl : l.take (i + 1) = l.take i ++ [a] := by rw [List.take_add_one, ha]; rfl
    have fin : ∀ (o : Option D) (δ3 : Env), (o = some (g a) ∧ δ3 = clr δ1 own) → addO ((l.take i).map g) o = (l.take (i + 1)).map g ∧ δ3 = clr δ1 own := by
      rintro o δ3 ⟨rfl, rfl⟩
      exact ⟨by rw [hl, List.map_append]; rfl, rfl⟩
    exact fun X' b B => (h3 i a ha X' b B).mono fun δ3 h => fun X' b B => ⟨pts_imp (h X' b B).h fun σ H Q ⟨T, R, q⟩ => ⟨T, R, fun t δ4 H' ⟨k1, k2⟩ => q t δ4 H' ⟨fun ht X' b B => (k1 ht X' b B).mono fun r δ5 ⟨e, δ6, tk, p⟩ => ⟨e, δ6, tk, fin _ _ p⟩, fun ht => fin _ _ (k2 ht)⟩⟩⟩
  · rintro acc δ2 ⟨rfl, rfl⟩
    rw [List.length_map, List.take_length]
    exact h4
theorem lc_mapA {α : Type} {own : List Nat} {rs : List Rs} {ds : List D} {δ1 : Env} (l : List α) (u g : α → D) (hds : ds = l.map u) (h1 : slots rs = []) (h2 : l.length < sizeLine)
    (h3 : ∀ (i : Nat) (a : α), l[i]? = some a → Turn1 X N sc f tg elt ifs own (u a) (clr δ1 own) fun o δ3 => o = some (g a) ∧ δ3 = clr δ1 own) (h4 : Ψ (.v (.lst (l.map g))) (clr δ1 own)) : LcOk X N sc f tg elt ifs own Ψ rs ds δ1 := by
  subst hds
  refine ⟨h1, by rw [List.length_map]; exact h2, fun i acc δ2 => acc = (l.take i).map g ∧ δ2 = clr δ1 own, ⟨by simp, rfl⟩, ?_, ?_⟩
  · rintro i d acc δ2 hd _ ⟨rfl, rfl⟩
    obtain ⟨a, ha, rfl⟩ := map_get hd
    have hl : l.take (i + 1) = l.take i ++ [a] := by rw [List.take_add_one, ha]; rfl
    have fin : ∀ (o : Option D) (δ3 : Env), (o = some (g a) ∧ δ3 = clr δ1 own) → addO ((l.take i).map g) o = (l.take (i + 1)).map g ∧ δ3 = clr δ1 own := by
      rintro o δ3 ⟨rfl, rfl⟩
      exact ⟨by rw [hl, List.map_append]; rfl, rfl⟩
    exact fun X' b B => (h3 i a ha X' b B).mono fun δ3 h => fun X' b B => ⟨pts_imp (h X' b B).h fun σ H Q ⟨T, R, q⟩ => ⟨T, R, fun t δ4 H' ⟨k1, k2⟩ => q t δ4 H' ⟨fun ht X' b B => (k1 ht X' b B).mono fun r δ5 ⟨e, δ6, tk, p⟩ => ⟨e, δ6, tk, fin _ _ p⟩, fun ht => fin _ _ (k2 ht)⟩⟩⟩
  · rintro acc δ2 ⟨rfl, rfl⟩
    rw [List.length_map, List.take_length]
    exact h4
/-! a slot pinned while a loop runs -/
def Fm.pinned (f : Fm) (j : Nat) (v : V) : Fm := ⟨f.H0, f.F0, j :: f.pn, fun i => if i = j then v else f.pv i, f.tb⟩
end
theorem atI_succ {α : Type} {x : α} {xs : List α} {i : Nat} (h : i < xs.length) : atI (x :: xs) (1 + (i : Int)) = xs[i]? := by
  unfold atI ixN
  rw [if_pos (by omega), if_pos (by simp; omega)]
  show (x :: xs)[(1 + (i : Int)).toNat]? = _
  rw [show (1 + (i : Int)).toNat = i + 1 by omega]
  rfl
theorem atI_getD {l : List Int} {a : Int} (h0 : 0 ≤ a) (h1 : a < (l.length : Int)) : atI (l.map D.int) a = some (.int (l.getD a.toNat 0)) := by
  obtain ⟨j, hj, e, q⟩ := atI_of (l := l.map D.int) h0 (by simpa using h1)
  rw [q, List.getElem_map, List.getD_eq_getElem?_getD, e, Int.toNat_natCast, List.getElem?_eq_getElem (by simpa using hj)]
  rfl
theorem getD_mem {l : List Int} {a : Nat} (h1 : a < l.length) : l.getD a 0 ∈ l := by
  rw [List.getD_eq_getElem?_getD, List.getElem?_eq_getElem h1]
  exact List.getElem_mem h1
theorem cutA_first {α : Type} {x : α} {xs : List α} : cutA (x :: xs) none (some 1) = [x] := by
  unfold cutA HT.sIx
  simp
theorem cutA1_len {α : Type} {xs : List α} : (cutA xs (some 1) none).length = xs.length - 1 := by
  cases xs with
  | nil => rfl
  | cons x xs => rw [cutA_tail]; simp
/-! a, b = x, y -/
section
variable {X : Cx} {f : Fm} {δ : Env} {a b : Expr} {pos : Pos} {Φ : Ph} {N : List Str} {sc : Scope}
def starQ : Expr → Bool
  | .Starred .. => true
  | _ => false
def nmQ (env : PySem.Env) (l : Nat) : Expr → Option Str
  | .Name id pos => if env.kindOf id == some .local && pos.line == l then some id else none
  | _ => none
theorem sw_par {x y : Str} {px py pt : Pos} {kt k2 pt2} (B : Bd X N sc) (hk : sc.kind = .function) (hx : Nm sc x .local) (hy : Nm sc y .local) (hl : (py.line == px.line) = true) (hd : ([x, y].eraseDups.length != 2) = false)
    (h1 : [a, b].any starQ = false) (h2 : [a, b].all (foldedForSure 8) = false) (h3 : [a, b].all (constantsAlone 8) = false) : swappedStores [.Tuple [.Name x px, .Name y py] kt pt] (.Tuple [a, b] k2 pt2) X.env = pure (some [x, y]) := by
  have kx : X.env.kindOf x = some .local := by
    show X.env.scope.names.lookup x = _
    rw [B.eS]
    exact hx
  have ky : X.env.kindOf y = some .local := by
    show X.env.scope.names.lookup y = _
    rw [B.eS]
    exact hy
  have hb : X.env.blockKind = .function := by unfold Env.blockKind; rw [B.eS, hk]; rfl
  have hn : [Expr.Name x px, Expr.Name y py].filterMap (nmQ X.env px.line) = [x, y] := by
    have e1 : nmQ X.env px.line (Expr.Name x px) = some x := by
      show (if (X.env.kindOf x == some .local && px.line == px.line) = true then some x else none) = some x
      rw [kx]; simp
    have e2 : nmQ X.env px.line (Expr.Name y py) = some y := by
      show (if (X.env.kindOf y == some .local && py.line == px.line) = true then some y else none) = some y
      rw [ky, hl]; simp
    rw [List.filterMap_cons, e1, List.filterMap_cons, e2]
    rfl
  have q : swappedStores [.Tuple [.Name x px, .Name y py] kt pt] (.Tuple [a, b] k2 pt2) X.env = (if (!(2 == 2 || 2 == 3) || 2 != 2 || X.env.blockKind != .function) = true then pure none else
      if [a, b].any starQ = true then pure none else
      if (([Expr.Name x px, Expr.Name y py].filterMap (nmQ X.env px.line)).length != 2 || ([Expr.Name x px, Expr.Name y py].filterMap (nmQ X.env px.line)).eraseDups.length != ([Expr.Name x px, Expr.Name y py].filterMap (nmQ X.env px.line)).length) = true then pure none else
      if [a, b].all (foldedForSure 8) = true then pure none else
      if [a, b].all (constantsAlone 8) = true then unsupported "assign.tuple-of-constant-expressions:order-of-the-stores" else
      pure (some ([Expr.Name x px, Expr.Name y py].filterMap (nmQ X.env px.line)))) := by
    unfold swappedStores
    rfl
  rw [q, hb, hn, h1, h2, h3]
  rw [if_neg (by decide), if_neg (by decide), if_neg, if_neg (by decide), if_neg (by decide)]
  show ¬ ((2 != 2 || [x, y].eraseDups.length != 2) = true)
  rw [hd]
  decide
theorem ds_par {i j : Nat} {x y : Str} {px py pt : Pos} {kt k2 pt2} (B : Bd X N sc) (hi : Sl N i x) (hj : Sl N j y) (hij : (i != j) = true) (hx : Nm sc x .local) (hy : Nm sc y .local) (ui : Unp f i) (uj : Unp f j)
    (h : DA X f δ [a, b] fun rs δ1 => ∃ ra rb da db δ2 δ3, rs = [ra, rb] ∧ Take δ1 ra da δ2 ∧ Take δ2 rb db δ3 ∧ Φ.nx ((δ3.set i (some da)).set j (some db)))
    (hw : swappedStores [.Tuple [.Name x px, .Name y py] kt pt] (.Tuple [a, b] k2 pt2) X.env = pure (some [x, y]))
    (hs : swapsWithSole [.Tuple [.Name x px, .Name y py] kt pt] (.Tuple [a, b] k2 pt2) pos.line X.env = pure false := by rfl) :
    DS X f δ (.Assign [.Tuple [.Name x px, .Name y py] kt pt] (.Tuple [a, b] k2 pt2) pos) Φ :=
  DS.of (ps_par B.calm B.ndX (B.ix hi) (B.ix hj) (by simpa using hij) (by rw [B.eS]; exact hx) (by rw [B.eS]; exact hy) h.h hw hs) fun E σ H ⟨T, R, n, r, b, c⟩ => ⟨tv T, R, fun rs δ1 vs H1 ⟨ra, rb, da, db, δ2, δ3, er, t1, t2, k⟩ hl R1 => by
    obtain ⟨v, w, ev, ez⟩ := two_of (T := tv T) er hl
    subst ev er
    rw [ez] at R1
    have R2 := t2.rp ((t1.rp R1).perm (List.Perm.swap _ _ _))
    have R3 : Rp X.K f H1 σ δ3 ((v, .v da) :: tv ((w, db) :: T)) := R2.perm (List.Perm.swap _ _ _)
    have R4 := R3.store ui tv_ns
    exact ⟨v, w, rfl, n _ _ _ k (Rp.store (T := tv T) R4 uj tv_ns)⟩⟩
end
theorem ixN_last (n : Nat) : ixN (n + 1) (-1) = some n := by
  unfold ixN
  rw [if_neg (by decide), if_pos (by omega)]
  congr 1
  omega
theorem atI_last {α : Type} {xs : List α} {y : α} : atI (xs ++ [y]) (-1) = some y := by
  unfold atI
  rw [List.length_append, List.length_singleton, ixN_last]
  simp
theorem last_of {α : Type} {l : List α} (h : 1 ≤ l.length) : ∃ ys y, l = ys ++ [y] := by
  rcases List.eq_nil_or_concat l with rfl | ⟨ys, y, rfl⟩
  · cases h
  · exact ⟨ys, y, by simp⟩
theorem set_last {α : Type} {xs : List α} {y z : α} : (xs ++ [y]).set xs.length z = xs ++ [z] := by
  rw [List.set_append_right _ _ (Nat.le_refl _)]
  simp
/-! ### texts of numbers -/
def numW (i : Int) : Str := Str.ofString (toString i)
end Dl

namespace Dl
open PySem L2
def preLaw : Pre := fun ds Φ => ∃ sc : List Int, ds = [.fz (sc.map .int)] ∧ sc.length ≤ 63 ∧ Φ (.bl true) ds
theorem sep_ints {K : PySem.W.Frag} {H : Hp} {F : Fp} : ∀ ns : List Int, Sep (OwnE K H) ((ns.map V.int).zip (ns.map D.int)) F
  | [] => trivial
  | n :: ns => ⟨fun _ => False, fun _ => False, .int, sep_ints ns, fun _ q => q.elim, fun _ q => q.elim, fun _ q => q.elim⟩
theorem Fun.bindsTo {K : PySem.W.Frag} {x qual p : Str} {st : Stmt} {f : Addr} {fd : FuncData} (F : L2.Fun K x qual st f fd) (h : ∀ (kV doc pm : Value) (an : Option Addr) (cdv ct : Value) (v : Value), bindArgs (PySem.W.fnOf x qual (defArgs st) (defBody st) (defScope st) .none kV doc pm an cdv ct) ⟨[v], []⟩ = pure [(p, v)]) (s : Shared) (v : Value) : BindsTo s fd ⟨[v], []⟩ [(p, v)] := by
  obtain ⟨oc, od, kV, doc, pm, an, cdv, ct, osl, rfl, _⟩ := F.ex
  exact .of_eq (h kV doc pm an cdv ct v)
end Dl

namespace Dl
open PySem L2
/-! ### objects: fields, methods, making -/
/-- the place of a field, its data -/
def fEnt (f : Str) : List (Str × D) → Option (Nat × D)
  | [] => none
  | (g, d) :: r => if f == g then some (0, d) else match fEnt f r with
    | some (k, e) => some (k + 1, e)
    | none => none
/-- a class of one's own, the names of its fields -/
structure OC (K : PySem.W.Frag) (C : Addr) (ns : List Str) : Prop where
  c : Cls K C
  na : ∀ f ∈ ns, NoAttr K C f
section
variable {X : Cx} {f : Fm} {δ : Env} {e a b c o : Expr} {es rest : List Expr} {st : Stmt} {sts : List Stmt} {pos p2 : Pos} {Ψ : Rs → Env → Prop} {Θ : Bool → Env → Prop} {Λ : List Rs → Env → Prop} {Φ : Ph}
variable {N : List Str} {sc : Scope} {Pr : Program} {w : World} {K : PySem.W.Frag} {mg : Str → Option Value} {base : Heap} {k n m : Nat}
/-- o.f; a part that may be changed is tagged in its place -/
inductive FldS (K : PySem.W.Frag) (δ : Env) (nm : Str) : Rs → (Rs → Env → Prop) → Prop
  | imm {r : Rs} {C : Addr} {fs : List (Str × D)} {ns : List Str} {j : Nat} {d : D} {P : Rs → Env → Prop} : rsv δ r = some (.obj C fs) → fEnt nm fs = some (j, d) → OC K C ns → nm ∈ ns → Imm d → P (.v d) δ → FldS K δ nm r P
  | immP {w : V} {i : Nat} {π : List Nat} {C : Addr} {fs : List (Str × D)} {ns : List Str} {j : Nat} {d : D} {P : Rs → Env → Prop} : getP δ i π = some (.tg w (.obj C fs)) → fEnt nm fs = some (j, d) → OC K C ns → nm ∈ ns → Imm d → P (.v d) (setP δ i π (.obj C fs)) → FldS K δ nm (.p w i π) P
  | tagS {i : Nat} {C : Addr} {fs : List (Str × D)} {ns : List Str} {j : Nat} {u : V} {d : D} {P : Rs → Env → Prop} : δ[i]? = some (some (.obj C fs)) → fEnt nm fs = some (j, .tg u d) → OC K C ns → nm ∈ ns → P (.p u i [j]) δ → FldS K δ nm (.s i) P
  | tagP {v : V} {i : Nat} {π : List Nat} {C : Addr} {fs : List (Str × D)} {ns : List Str} {j : Nat} {u : V} {d : D} {P : Rs → Env → Prop} : getP δ i π = some (.tg v (.obj C fs)) → fEnt nm fs = some (j, .tg u d) → OC K C ns → nm ∈ ns → P (.p u i (π ++ [j])) δ → FldS K δ nm (.p v i π) P
  | s {i : Nat} {C : Addr} {fs : List (Str × D)} {ns : List Str} {j : Nat} {d : D} {P : Rs → Env → Prop} : δ[i]? = some (some (.obj C fs)) → fEnt nm fs = some (j, d) → OC K C ns → nm ∈ ns → (∀ u, P (.p u i [j]) (δ.set i (some (.obj C (setV fs j (.tg u d)))))) → FldS K δ nm (.s i) P
  | p {v : V} {i : Nat} {π : List Nat} {C : Addr} {fs : List (Str × D)} {ns : List Str} {j : Nat} {d : D} {P : Rs → Env → Prop} : getP δ i π = some (.tg v (.obj C fs)) → fEnt nm fs = some (j, d) → OC K C ns → nm ∈ ns → (∀ u, P (.p u i (π ++ [j])) (setP δ i π (.tg v (.obj C (setV fs j (.tg u d)))))) → FldS K δ nm (.p v i π) P
theorem dAt_app {c e : D} {ρ : List Nat} : ∀ {π : List Nat} {d : D}, dAt d π = some c → dAt c ρ = some e → dAt d (π ++ ρ) = some e
  | [], d, h, g => by cases h; exact g
  | k :: π, d, h, g => by
    cases q : (kids (unT d))[k]? with
    | none =>
      have : dAt d (k :: π) = none := by show (match (kids (unT d))[k]? with | some c => dAt c π | none => none) = none; rw [q]
      rw [this] at h; cases h
    | some c1 =>
      rw [dAt_some q] at h
      show dAt d (k :: (π ++ ρ)) = some e
      rw [dAt_some q]
      exact dAt_app h g
theorem dSet_app {c x : D} {ρ : List Nat} : ∀ {π : List Nat} {d : D}, dAt d π = some c → dSet d (π ++ ρ) x = dSet d π (dSet c ρ x)
  | [], d, h => by cases h; rfl
  | k :: π, d, h => by
    cases q : (kids (unT d))[k]? with
    | none =>
      have : dAt d (k :: π) = none := by show (match (kids (unT d))[k]? with | some c => dAt c π | none => none) = none; rw [q]
      rw [this] at h; cases h
    | some c1 =>
      rw [dAt_some q] at h
      show dSet d (k :: (π ++ ρ)) x = _
      rw [dSet_some q, dSet_some q, dSet_app h]
theorem getP_of {i : Nat} {π : List Nat} {c : D} (h : getP δ i π = some c) : ∃ d, δ[i]? = some (some d) ∧ dAt d π = some c := by
  unfold getP at h
  cases q : δ[i]?.join with
  | none => rw [q] at h; cases h
  | some d => rw [q] at h; exact ⟨d, get_join q, h⟩
theorem getP_mk {i : Nat} {π : List Nat} {c d : D} (h : δ[i]? = some (some d)) (g : dAt d π = some c) : getP δ i π = some c := by
  unfold getP
  rw [h]
  exact g
theorem setP_mk {i : Nat} {π : List Nat} {d x : D} (h : δ[i]? = some (some d)) : setP δ i π x = δ.set i (some (dSet d π x)) := by
  unfold setP
  rw [h]
  rfl
theorem setP_app {i : Nat} {π ρ : List Nat} {c x : D} (h : getP δ i π = some c) : setP δ i (π ++ ρ) x = setP δ i π (dSet c ρ x) := by
  obtain ⟨d, h1, h2⟩ := getP_of h
  rw [setP_mk h1, setP_mk h1, dSet_app h2]
theorem getP_app {i : Nat} {π ρ : List Nat} {c e : D} (h : getP δ i π = some c) (g : dAt c ρ = some e) : getP δ i (π ++ ρ) = some e := by
  obtain ⟨d, h1, h2⟩ := getP_of h
  exact getP_mk h1 (dAt_app h2 g)
/-- a part tagged -/
theorem Rp.partS {H : Hp} {σ : St} {T : List (V × Rs)} {i j : Nat} {c d : D} (R : Rp K f H σ δ T) (h : δ[i]? = some (some c)) (hk : (kids c)[j]? = some d) : ∃ u, Rp K f H σ (δ.set i (some (setK0 c j (.tg u d)))) T := by
  have hn : ∀ v e, c ≠ .tg v e := (kid_leaf hk).2
  have hk' : (kids (unT c))[j]? = some d := by rw [unT_nt hn]; exact hk
  have g : getP δ i [j] = some d := getP_mk h (by rw [dAt_some hk']; rfl)
  obtain ⟨u, R1⟩ := R.tagP g
  rw [setP_mk h, dSet_some hk', setK_nt hn] at R1
  exact ⟨u, R1⟩
theorem Rp.partP {H : Hp} {σ : St} {T : List (V × Rs)} {i j : Nat} {π : List Nat} {v : V} {c d : D} (R : Rp K f H σ δ T) (h : getP δ i π = some (.tg v c)) (hk : (kids c)[j]? = some d) : ∃ u, Rp K f H σ (setP δ i π (.tg v (setK0 c j (.tg u d)))) T := by
  have hk' : (kids (unT (.tg v c)))[j]? = some d := hk
  have g : getP δ i (π ++ [j]) = some d := getP_app h (by rw [dAt_some hk']; rfl)
  obtain ⟨u, R1⟩ := R.tagP g
  rw [setP_app h, dSet_some hk'] at R1
  exact ⟨u, R1⟩
theorem Rp.untagP {H : Hp} {σ : St} {T : List (V × Rs)} {i : Nat} {π : List Nat} {w : V} {c : D} (R : Rp K f H σ δ T) (h : getP δ i π = some (.tg w c)) : Rp K f H σ (setP δ i π c) T := by
  obtain ⟨w', R1⟩ := R.outP h
  exact Rp.backP h (R1.tell fun F o => o.of_tg.2)
/-- self.f = e -/
inductive PutS (K : PySem.W.Frag) (δ : Env) (nm : Str) : Rs → D → (Env → Prop) → Prop
  | old {i : Nat} {C : Addr} {fs : List (Str × D)} {ns : List Str} {j : Nat} {d0 d : D} {P : Env → Prop} : δ[i]? = some (some (.obj C fs)) → fEnt nm fs = some (j, d0) → OC K C ns → nm ∈ ns → fs.length < 1000 → P (δ.set i (some (.obj C (setV fs j d)))) → PutS K δ nm (.s i) d P
  | new {i : Nat} {C : Addr} {fs : List (Str × D)} {ns : List Str} {d : D} {P : Env → Prop} : δ[i]? = some (some (.obj C fs)) → fEnt nm fs = none → OC K C ns → nm ∈ ns → fs.length < 1000 → P (δ.set i (some (.obj C (fs ++ [(nm, d)])))) → PutS K δ nm (.s i) d P
/-! ### methods -/
structure GMt (P : Program) (w : World) (K : PySem.W.Frag) (mg : Str → Option Value) (base : Heap) (k : Nat) (C : Addr) (m : Str) (n : Nat) (pre : Pre) : Prop where
  ex : ∃ (f : Addr) (fd : FuncData) (ps : List Str), Meth K C m f ∧ Binds K fd ps [] ∧ FnOk P w K mg base CX0 k f fd ps (spD K n pre)
/-! ### a new instance -/
structure GMk (P : Program) (w : World) (K : PySem.W.Frag) (mg : Str → Option Value) (base : Heap) (k : Nat) (x : Str) (C : Addr) (n : Nat) (pre : Pre) : Prop where
  ex : ∃ (f : Addr) (fd : FuncData) (ps : List Str), mg x = some (.ref C) ∧ Mk K C f ∧ Binds K fd ps [] ∧ FnOk P w K mg base CX0 k f fd ps (spD K (n + 1) pre)
end
end Dl

namespace Dl
open PySem L2
/-! ### less told of data: tags dropped -/
def Wk (d e : D) : Prop := ∀ (K : PySem.W.Frag) (H : Hp) (v : V) (F : Fp), OwnE K H v d F → OwnE K H v e F
inductive WkL : List D → List D → Prop
  | nil : WkL [] []
  | cons {d e : D} {ds es : List D} : Wk d e → WkL ds es → WkL (d :: ds) (e :: es)
inductive WkF {α : Type} : List (α × D) → List (α × D) → Prop
  | nil : WkF [] []
  | cons {x : α} {d e : D} {ds es : List (α × D)} : Wk d e → WkF ds es → WkF ((x, d) :: ds) ((x, e) :: es)
inductive WkE : Env → Env → Prop
  | nil : WkE [] []
  | no {δ δ' : Env} : WkE δ δ' → WkE (none :: δ) (none :: δ')
  | so {d e : D} {δ δ' : Env} : Wk d e → WkE δ δ' → WkE (some d :: δ) (some e :: δ')
theorem wk_refl {d : D} : Wk d d := fun _ _ _ _ o => o
theorem wkE_refl : ∀ {δ : Env}, WkE δ δ
  | [] => .nil
  | none :: _ => .no wkE_refl
  | some _ :: _ => .so wk_refl wkE_refl
theorem WkL.len {ds es : List D} (h : WkL ds es) : ds.length = es.length := by
  induction h with
  | nil => rfl
  | cons _ _ ih => simp [ih]
section
variable {K : PySem.W.Frag} {f : Fm} {H : Hp} {σ : St} {δ δ' : Env} {T : List (V × Rs)}
theorem WkE.len {δ δ' : Env} (h : WkE δ δ') : δ.length = δ'.length := by
  induction h with
  | nil => rfl
  | no _ ih => simp [ih]
  | so _ _ ih => simp [ih]
theorem WkE.get {δ δ' : Env} (h : WkE δ δ') : ∀ {i : Nat} {e : D}, δ'[i]? = some (some e) → ∃ d, δ[i]? = some (some d) := by
  induction h with
  | nil => intro i e q; cases q
  | no _ ih =>
    intro i e q
    cases i with
    | zero => cases q
    | succ i => exact ih (i := i) (by simpa using q)
  | @so d e' _ _ a _ ih =>
    intro i e q
    cases i with
    | zero => exact ⟨d, rfl⟩
    | succ i => exact ih (i := i) (by simpa using q)
theorem WkE.cells {δ δ' : Env} (h : WkE δ δ') : ∀ {σ : St} {F : Fp}, Sep (OwnE K H) (Dl.cells σ δ) F → Sep (OwnE K H) (Dl.cells σ δ') F := by
  induction h with
  | nil => exact fun s => s
  | no _ ih =>
    intro σ F s
    cases σ with
    | nil => exact s
    | cons x σ =>
      have e : ∀ y : Option V, cl y none = (.non, .non) := fun y => by cases y <;> rfl
      have s' : Sep (OwnE K H) (cl x none :: Dl.cells σ _) F := s
      exact s'.under fun G g => ih g
  | @so d e' δ δ' a _ ih =>
    intro σ F s
    cases σ with
    | nil => exact s
    | cons x σ =>
      have s' : Sep (OwnE K H) (cl x (some d) :: Dl.cells σ _) F := s
      cases x with
      | none => exact s'.under fun G g => ih g
      | some v =>
        obtain ⟨F1, F2, s1, s2, r⟩ := s'
        exact ⟨F1, F2, a _ _ _ _ s1, ih s2, r⟩
theorem Rp.wk (R : Rp K f H σ δ T) (h : WkE δ δ') : Rp K f H σ δ' T := by
  obtain ⟨F, s, k⟩ := R.own
  obtain ⟨F1, F2, s1, s2, dj, k1, k2⟩ := s.split
  refine ⟨R.len.trans h.len, fun i e q => ?_, ⟨_, Sep.append s1 (h.cells s2) dj, fun x q => q.elim (fun q => k x (k1 x q)) fun q => k x (k2 x q)⟩, R.tmp, R.fr, R.tx, R.pin⟩
  obtain ⟨d, hd⟩ := h.get q
  exact R.has i d hd
end
section
variable {X : Cx} {f : Fm} {δ δ' : Env} {e a b c o : Expr} {es rest : List Expr} {st : Stmt} {sts : List Stmt} {pos p2 : Pos} {Ψ : Rs → Env → Prop} {Θ : Bool → Env → Prop} {Λ : List Rs → Env → Prop} {Φ : Ph}
variable {N : List Str} {sc scope : Scope} {tg iter elt : Expr} {ifs : List Expr}
theorem ds_retw (h : DE X f δ e fun r δ1 => ∃ d δ2 d' δ3, Take δ1 r d δ2 ∧ Wk d d' ∧ WkE δ2 δ3 ∧ Φ.rt d' δ3) : DS X f δ (.Return (some e) pos) Φ :=
  DS.of (ps_ret h.h) fun E σ H ⟨T, R, n, r, b, c⟩ => ⟨tv T, R, fun r' δ1 v H1 ⟨d, δ2, d', δ3, t, w1, w2, k⟩ R1 => r d' δ3 v σ H1 k (((t.rp R1).wk w2).tell fun F o => w1 _ _ _ _ o)⟩
/-- a name whose value is known to stand elsewhere -/
theorem de_alias {i j : Nat} {π : List Nat} {x : Str} {u : V} (B : Bd X N sc) (hN : Sl N i x) (hv : Vis sc x) (hd : δ[i]? = some (some (.opq u))) (k : Ψ (.p u j π) δ) (h1 : (x == ("__debug__" : Str)) = false := by first | exact PlN.d (by with_reducible assumption) | decide) (h2 : (x == ("__classdict__" : Str)) = false := by first | exact PlN.c (by with_reducible assumption) | decide) : DE X f δ (.Name x pos) Ψ :=
  DE.of (pe_var (B.ix hN) (B.vis hv) h1 h2) fun σ H Q ⟨T, R, q⟩ => by
    obtain ⟨v, e, F, o⟩ := R.slot hd
    have ev := o.of_opq
    subst ev
    exact ⟨v, e, q _ _ _ _ k R.pushP⟩
/-! ### walking over anything that does not stand in a slot as a whole -/
def noSl : List Rs → Bool
  | [] => true
  | .s _ :: _ => false
  | _ :: rs => noSl rs
theorem src_of {K : PySem.W.Frag} {H : Hp} {σ : St} : ∀ {rs : List Rs} {vs : List V} {es : List D} {T : List (V × D)}, noSl rs = true → vs.length = rs.length → Rp K f H σ δ (tv (plain (vs.zip rs) ++ T)) → rsvs δ rs = some es → ∀ c ∈ vs.zip es, ∃ F, OwnE K H c.1 c.2 F
  | [], [], es, T, _, _, _, _, c, m => nomatch m
  | r :: rs, v :: vs, es, T, hn, hl, R, h, c, m => by
    unfold rsvs at h
    cases e1 : rsv δ r with
    | none => rw [e1] at h; cases h
    | some d =>
      cases e2 : rsvs δ rs with
      | none => rw [e1, e2] at h; cases h
      | some ds' =>
        rw [e1, e2] at h
        cases h
        have hl' : vs.length = rs.length := by simpa using hl
        cases r with
        | s i => cases hn
        | v x =>
          cases e1
          have R' : Rp K f H σ δ ((v, .v d) :: tv (plain (vs.zip rs) ++ T)) := R
          rcases List.mem_cons.mp m with m | m
          · cases m; exact R'.res (r := .v d) (by simp) rfl
          · exact src_of (rs := rs) hn hl' R'.tail e2 c m
        | p u i π =>
          have R' : Rp K f H σ δ ((v, .v (.opq u)) :: tv (plain (vs.zip rs) ++ T)) := R
          rcases List.mem_cons.mp m with m | m
          · cases m
            obtain ⟨F, o⟩ := R'.res (v := v) (r := .v (.opq u)) (by simp) rfl
            have ev := o.of_opq
            subst ev
            exact (R'.pushP (v := v) (j := i) (π := π)).res (r := .p v i π) (by simp) e1
          · exact src_of (rs := rs) hn hl' R'.tail e2 c m
  | [], _ :: _, _, _, _, hl, _, _, _, _ => nomatch hl
  | _ :: _, [], _, _, _, hl, _, _, _, _ => nomatch hl
theorem plain_app {T : List (V × Rs)} : ∀ {cs : List (V × Rs)}, plain (cs ++ T) = plain cs ++ plain T
  | [] => rfl
  | (v, .v d) :: cs => congrArg ((v, d) :: ·) (plain_app (cs := cs))
  | (v, .s _) :: cs => congrArg ((v, D.opq v) :: ·) (plain_app (cs := cs))
  | (v, .p w _ _) :: cs => congrArg ((v, D.opq w) :: ·) (plain_app (cs := cs))
/-- what a comprehension over ds does -/
def LcOkG (X : Cx) (N : List Str) (sc : Scope) (f : Fm) (tg elt : Expr) (ifs : List Expr) (own : List Nat) (Ψ : Rs → Env → Prop) (rs : List Rs) (ds : List D) (δ1 : Env) : Prop :=
  noSl rs = true ∧ ds.length < sizeLine ∧ ∃ I : Nat → List D → Env → Prop, I 0 [] (clr δ1 own) ∧ (∀ i acc δ2, I i acc δ2 → rsvs δ2 rs = rsvs δ1 rs) ∧
      (∀ (i : Nat) (d : D) acc δ2, ds[i]? = some d → acc.length ≤ i → I i acc δ2 → Turn1 X N sc f tg elt ifs own d δ2 fun o δ3 => I (i + 1) (addO acc o) δ3) ∧ ∀ acc δ2, I ds.length acc δ2 → Ψ (.v (.lst acc)) δ2
theorem lc_readG {own : List Nat} (hp : ∀ j ∈ own, Unp f j) : ∀ σ H Q, tE X.K f δ Ψ σ H Q → tLc (tI X.K f δ (LcOkG X N (rl scope sc) f tg elt ifs own Ψ)) (bG X N (rl scope sc) f tg) (bT X N (rl scope sc) f ifs) (bE X N (rl scope sc) f elt) own σ H Q := by
  refine fun σ H Q ⟨T0, R0, q⟩ => ⟨T0, R0, fun rs ds es δ1 vs H1 J ⟨hsl, hsz, I, i0, ij, st, en⟩ hl he him R1 gv Dl hD => ?_⟩
  have R1p : Rp X.K f H1 σ δ1 (tv (plain (vs.zip rs) ++ plain T0)) := by
    have := R1.toPlain
    rw [plain_app] at this
    exact this
  have hwc : ∀ {σ : St}, (wipe σ own).length = σ.length := wipe_length _ _
  have hwg : ∀ {σ : St} (j : Nat), j ∉ own → (wipe σ own)[j]? = σ[j]? := fun j hj => by rw [wipe_get]; simp [hj]
  have src : ∀ {H2 : Hp} {i : Nat} {acc : List D} {σ2 : St} {δ2 : Env} {c0 : V × D}, I i acc δ2 → Rp X.K f H2 σ2 δ2 (tv (c0 :: (plain (vs.zip rs) ++ plain T0))) → ∀ c ∈ vs.zip es, ∃ F, OwnE X.K H2 c.1 c.2 F := fun k2 R2 => src_of hsl hl (Rp.tail R2) ((ij _ _ _ k2).trans he)
  refine ⟨fun i m H2 => m = ds.length - i ∧ i ≤ ds.length ∧ ∃ acc δ2, acc.length ≤ i ∧ I i acc δ2 ∧ Rp X.K f H2 (wipe σ own) δ2 (tv ((.ref Dl, .lst acc) :: (plain (vs.zip rs) ++ plain T0))),
    ⟨ds.length, by simp, Nat.zero_le _, [], _, Nat.le_refl _, i0, ?_⟩, ?_⟩
  · have R2 : Rp X.K f (upd H1 Dl (.lst [])) σ δ1 (tv ((.ref Dl, .lst []) :: (plain (vs.zip rs) ++ plain T0))) := Rp.newI (vs := []) R1p hD (show upd H1 Dl _ Dl = _ from upd_same) rfl fun c m => nomatch m
    exact R2.cleared hwc (fun j hj => hwg j hj) hp
  · rintro i m H2 ⟨rfl, hi, acc, δ2, hacc, k2, R2⟩
    obtain ⟨g1, g2⟩ := gv H2 (src k2 R2)
    by_cases hlt : i < ds.length
    · have hd : ds[i]? = some ds[i] := List.getElem?_eq_getElem hlt
      obtain ⟨gg, gy⟩ := g2 i _ hd
      refine .inr ⟨gg, fun H' => ∃ acc' δ', acc'.length ≤ i + 1 ∧ I (i + 1) acc' δ' ∧ Rp X.K f H' (wipe σ own) δ' (tv ((.ref Dl, .lst acc') :: (plain (vs.zip rs) ++ plain T0))), fun H' ⟨acc', δ', h1, k', R'⟩ => ⟨ds.length - (i + 1), by omega, rfl, hlt, acc', δ', h1, k', R'⟩, fun x H' y => ?_⟩
      obtain ⟨sm, F, o⟩ := gy x H' y
      have tn := st i _ acc δ2 hd hacc k2
      unfold Turn1 at tn
      refine ⟨δ2, _, own, _, tn, (.ref Dl, .lst acc) :: (plain (vs.zip rs) ++ plain T0), (R2.same sm).pushI o (him _ (List.getElem_mem _)), fun δ3 σ3 H3 k3 l3 s3 R3 => ⟨?_, δ3, _, k3, _, R3, fun t δ4 H4 k4 R4 => ?_⟩⟩
      · have w0 : wipe (wipe σ own) own = wipe σ own := wipe_eq hwc fun j hj => hwg j hj
        rw [wipe_eq l3 s3, w0]
      · have back : ∀ {H5 : Hp} {δ5 : Env} {acc' : List D}, Rp X.K f H5 σ3 δ5 (tv ((.ref Dl, .lst acc') :: (plain (vs.zip rs) ++ plain T0))) → Rp X.K f H5 (wipe σ own) (clr δ5 own) (tv ((.ref Dl, .lst acc') :: (plain (vs.zip rs) ++ plain T0))) := fun R5 => R5.cleared l3.symm (fun j hj => (s3 j hj).symm) hp
        cases t with
        | true =>
          show bE X N (rl scope sc) f elt σ3 H4 _
          refine ⟨δ4, _, k4.1 rfl, _, R4, fun r δ5 v5 H5 ⟨e, δ6, tk, k6⟩ R5 => ?_⟩
          have R6 := tk.rp R5
          have R7 : Rp X.K f H5 σ3 δ6 ((.ref Dl, .v (.lst acc)) :: ([(v5, Rs.v e)] ++ tv (plain (vs.zip rs) ++ plain T0))) := R6.perm (List.Perm.swap _ _ _)
          obtain ⟨ws, n1, l1, ch⟩ := R7.change rfl
          have l1' : ws.length = acc.length := l1
          refine ⟨ws, n1, by omega, addO acc (some e), _, ?_, k6, ?_⟩
          · show (acc ++ [e]).length ≤ i + 1
            simp; exact hacc
          · refine back (ch _ (.lst (acc ++ [e])) (ws ++ [v5]) (show upd H5 Dl _ Dl = _ from upd_same) rfl (by simp [kids, l1']) (fun F s => ?_) fun o u z => by rw [show H5 Dl = some (.lst ws) from n1] at z; cases z)
            show Sep _ ((ws ++ [v5]).zip (acc ++ [e])) F
            rw [zip_app l1']
            exact s
        | false =>
          show ∃ acc' δ', _
          exact ⟨acc, _, by omega, k4.2 rfl, back R4⟩
    · have e : i = ds.length := by omega
      subst e
      refine .inl ⟨g1, ?_⟩
      have R3 : Rp X.K f H2 (wipe σ own) δ2 (tv ((.ref Dl, .lst acc) :: plain T0)) := by
        have drop : ∀ {cs : List (V × D)} {c : V × D}, Rp X.K f H2 (wipe σ own) δ2 (tv (c :: (cs ++ plain T0))) → Rp X.K f H2 (wipe σ own) δ2 (tv (c :: plain T0)) := by
          intro cs
          induction cs with
          | nil => exact fun h => h
          | cons c' cs ih => exact fun h => ih ((h.perm (List.Perm.swap _ _ _)).tail)
        exact drop R2
      exact q _ _ _ _ (en acc δ2 k2) (Rp.ofPlain (R3.unwipe hp) R0)
theorem de_lcG {own : List (Str × Nat)} (B : Bd X N sc) (ok : BlkOk N sc scope own) (hp : ∀ j ∈ own.map (·.2), Unp f j)
    (h : DI X f δ tg iter (LcOkG X N (rl scope sc) f tg elt ifs (own.map (·.2)) Ψ)) (hs : ∀ x, foldedSetIterable iter X.env x = pure x := by intro _; rfl) : DE X f δ (.ListComp elt [⟨tg, iter, ifs, 0⟩] scope pos) Ψ :=
  DE.of (pe_lc (own := own) B.calm B.ndX h.h (by rw [B.eN, B.eS]; exact ok) (fun _ _ _ _ _ => bG_ok B) (fun _ _ _ _ _ => bT_ok B) (fun _ _ _ _ _ => bE_ok B) hs) (lc_readG hp)
theorem ds_setLcG {own : List (Str × Nat)} {i : Nat} {y : Str} {py spos : Pos} (B : Bd X N sc) (hi : Sl N i y) (hy : Nm sc y .local) (hu : Unp f i) (hsw : swapsWith (.ListComp elt [⟨tg, iter, ifs, 0⟩] scope pos) (some (.Name y py)) spos.line X.env = pure true) (ok : BlkOk N sc scope own) (hp : ∀ j ∈ own.map (·.2), Unp f j)
    (h : DI X f δ tg iter (LcOkG X N (rl scope sc) f tg elt ifs (own.map (·.2)) fun r δ1 => ∃ d δ2, Take δ1 r d δ2 ∧ Φ.nx (δ2.set i (some d)))) (hs : ∀ x, foldedSetIterable iter X.env x = pure x := by intro _; rfl) : DS X f δ (.Assign [.Name y py] (.ListComp elt [⟨tg, iter, ifs, 0⟩] scope pos) spos) Φ :=
  DS.of (ps_setLc (own := own) B.calm B.ndX (B.ix hi) (by rw [B.eS]; exact hy) hsw h.h (by rw [B.eN, B.eS]; exact ok) (fun _ _ _ _ _ => bG_ok B) (fun _ _ _ _ _ => bT_ok B) (fun _ _ _ _ _ => bE_ok B) hs) fun E σ H ⟨T, R, n, r, b, c⟩ =>
    lc_readG hp σ H _ ⟨tv T, R, fun r δ1 v H1 ⟨d, δ2, t, k⟩ R1 => n _ _ _ k ((t.rp R1).store hu tv_ns)⟩
/-- a comprehension that changes nothing, item by item -/
theorem lc_mapG {α : Type} {own : List Nat} {rs : List Rs} {ds : List D} {δ1 : Env} (l : List α) (u : α → D) (g : α → Option D) (hds : ds = l.map u) (h1 : noSl rs = true) (h0 : rsvs (clr δ1 own) rs = rsvs δ1 rs) (h2 : l.length < sizeLine)
    (h3 : ∀ (i : Nat) (a : α), l[i]? = some a → Turn1 X N sc f tg elt ifs own (u a) (clr δ1 own) fun o δ3 => o = g a ∧ δ3 = clr δ1 own) (h4 : Ψ (.v (.lst (l.filterMap g))) (clr δ1 own)) : LcOkG X N sc f tg elt ifs own Ψ rs ds δ1 := by
  subst hds
  refine ⟨h1, by rw [List.length_map]; exact h2, fun i acc δ2 => acc = (l.take i).filterMap g ∧ δ2 = clr δ1 own, ⟨by simp, rfl⟩, fun _ _ _ ⟨_, e⟩ => by rw [e]; exact h0, ?_, ?_⟩
  · rintro i d acc δ2 hd _ ⟨rfl, rfl⟩
    obtain ⟨a, ha, rfl⟩ := map_get hd
    have hl : l.take (i + 1) = l.take i ++ [a] := by rw [List.take_add_one, ha]; rfl
    have fin : ∀ (o : Option D) (δ3 : Env), (o = g a ∧ δ3 = clr δ1 own) → addO ((l.take i).filterMap g) o = (l.take (i + 1)).filterMap g ∧ δ3 = clr δ1 own := by
      rintro o δ3 ⟨rfl, rfl⟩
      refine ⟨?_, rfl⟩
      rw [hl, List.filterMap_append]
      cases q : g a with
      | none => simp [addO, q]
      | some e => simp [addO, q]
    exact fun X' b B => (h3 i a ha X' b B).mono fun δ3 h => fun X' b B => ⟨pts_imp (h X' b B).h fun σ H Q ⟨T, R, q⟩ => ⟨T, R, fun t δ4 H' ⟨k1, k2⟩ => q t δ4 H' ⟨fun ht X' b B => (k1 ht X' b B).mono fun r δ5 ⟨e, δ6, tk, p⟩ => ⟨e, δ6, tk, fin _ _ p⟩, fun ht => fin _ _ (k2 ht)⟩⟩⟩
  · rintro acc δ2 ⟨rfl, rfl⟩
    rw [List.length_map, List.take_length]
    exact h4
end
end Dl

namespace Dl
open PySem PySem.Spec PyProof.Rows L2
/-! ### dicts, a tuple key that may be any known tuple -/
def DGetS (K : PySem.W.Frag) (H : Hp) (a : Addr) (y : V) (r : Option V) : Prop :=
  (∃ kvs k, Rd H a (.dK kvs) ∧ y = kV k ∧ r = valV kvs k) ∨ ∃ kvs k b, Rd H a (.dT kvs) ∧ y = .ref b ∧ SqT K H b (k.map kV) ∧ r = valV kvs k
def DPutS (K : PySem.W.Frag) (H : Hp) (a : Addr) (y v : V) (H' : Hp) : Prop :=
  (∃ kvs k, H a = some (.dK kvs) ∧ y = kV k ∧ kvs.length < sizeLine ∧ H' = upd H a (.dK (putK kvs k v))) ∨
  ∃ kvs k b, H a = some (.dT kvs) ∧ y = .ref b ∧ (H b = some (.tup (k.map kV)) ∨ (SqT K H b (k.map kV) ∧ (valV kvs k).isSome = true)) ∧ kvs.length < sizeLine ∧ H' = upd H a (.dT (putK kvs k v))
section
variable {X : Cx} {pins : List (Addr × Obj)} {σ : L2.St} {H : Hp} {s : Shared} {a b : Addr} {y v : V} {u r : Value} {o : Option V} {A : Around} {E : Value → Shared → Prop}
theorem key_ofS {ks : List L2.Key} (I : Inv X pins σ H s) (e : SqT X.K H b (ks.map kV)) : (tupleKind (mixKind X.prog X.w)).is s.heap ks b := by
  obtain ⟨its, r, ⟨o, h1, h2, n, h3⟩, _⟩ := I.tuple e
  exact ⟨o, its.toArray, n, h1, h2, h3, by simpa using items_are r⟩
theorem sd_getItem {Q : Value → Shared → Prop} (hu : A.units + 1 < cLine) (I : Inv X pins σ H s) (g : DGetS X.K H a y (some v)) (ry : RelV y u) (h : ∀ w' s', Inv X pins σ H s' → RelV v w' → Q w' s') :
    wpAny (model X.prog X.w) A (getItem (.ref a) u) Q E s := by
  rcases g with ⟨kvs, k, e, ey, l⟩ | ⟨kvs, k, b, e, ey, eb, l⟩
  · exact d_getItem hu I (.inl ⟨kvs, k, e, ey, l⟩) ry h
  · subst ey
    cases (show u = Value.ref b from ry)
    obtain ⟨z, hd, xs, rel, dd⟩ := dt_rd I.hok e
    obtain ⟨w', hw, rw'⟩ := RelO.some_of (v := v) (o := (atKey xs k).map (·.2)) (by rw [l]; exact rel.val k)
    obtain ⟨p, hp, hp2⟩ := Option.map_eq_some_iff.mp hw
    refine wpAny_getItem_heap (tupleKind_room_in1 hu) (key_ofS I eb) dd hp ?_
    rw [hp2]
    exact h w' _ (I.tok _) rw'
theorem sd_in {Q : Value → Shared → Prop} (hu : A.units + 1 < cLine) (I : Inv X pins σ H s) (g : DGetS X.K H a y o) (ry : RelV y u) (h : ∀ s', Inv X pins σ H s' → Q (.bool o.isSome) s') :
    wpAny (model X.prog X.w) A (compareOp .In u (.ref a)) Q E s := by
  rcases g with ⟨kvs, k, e, ey, l⟩ | ⟨kvs, k, b, e, ey, eb, l⟩
  · exact d_in hu I (.inl ⟨kvs, k, e, ey, l⟩) ry h
  · subst ey
    cases (show u = Value.ref b from ry)
    obtain ⟨z, hd, xs, rel, dd⟩ := dt_rd I.hok e
    refine wpAny_in_heap (tupleKind_room_in1 hu) (key_ofS I eb) hd dd ?_
    have q := (rel.val k).isSome_eq
    rw [Option.isSome_map] at q
    rw [← q, ← l]
    exact h _ (I.tok _)
theorem KT.putS {kvs : List (List L2.Key × V)} {xs : List (List L2.Key × Addr × Value)} (r : KT H kvs xs) (k : List L2.Key) {b : Addr} {y : V} {u : Value} (hb : (valV kvs k).isSome = true) (ry : RelV y u) :
    KT H (putK kvs k y) (storedH xs k b u) := by
  have e : (kvs.any fun kv => decide (kv.1 = k)) = (atKey xs k).isSome := by
    rw [valV_any, (r.val k).isSome_eq, Option.isSome_map]
  unfold putK storedH
  rw [← e, valV_any, hb]
  exact r.repl k ry
theorem sd_setItem {H' : Hp} {Q : Unit → Shared → Prop} (hu : A.units + 1 < cLine) (I : Inv X pins σ H s) (g : DPutS X.K H a y v H') (ry : RelV y u) (rv : RelV v r) (h : ∀ s', Inv X pins σ H' s' → Q () s') :
    wpAny (model X.prog X.w) A (setItem (.ref a) u r) Q E s := by
  rcases g with ⟨kvs, k, e, ey, l, eH⟩ | ⟨kvs, k, b, e, ey, eb, l, eH⟩
  · exact d_setItem hu I (.inl ⟨kvs, k, e, ey, l, eH⟩) ry rv h
  · subst ey eH
    cases (show u = Value.ref b from ry)
    obtain ⟨z, hd, xs, rel, dd⟩ := dt_of I.hok e
    have hz : xs.length ≤ sizeLine := by rw [← Paired.length rel]; exact z
    have hl : (putK kvs k v).length ≤ sizeLine := by have := length_putK kvs k v; omega
    have sq : SqT X.K H b (k.map kV) := eb.elim (fun q => SqT.of q) fun q => q.1
    refine wpAny_setItem_heap (hsz := hz) (tupleKind_room_in1 hu) (key_ofS I sq) dd fun h' dd' hs => h _ ?_
    obtain ⟨q, es, ep, hq, h2, h3, h4, _, h5⟩ := dd'
    have kt : KT H (putK kvs k v) (storedH xs k b r) := eb.elim (fun q => rel.put k q rv) fun q => KT.putS rel k q.2 rv
    refine d_write I (by rw [e]; exact True.intro) hs ⟨q, hq⟩ ⟨hl, hd, _, kt.keeps fun c ys ec => ?_, q, es, ep, hq, h2, h3, h4, h5⟩
    rw [upd_ne (ne_of ec e (fun z => nomatch z))]
    exact ec
theorem sd_typeIs (I : Inv X pins σ H s) (g : DGetS X.K H a y o) : s.TypeIs (.ref a) "dict" := by
  rcases g with ⟨kvs, k, e, _, _⟩ | ⟨kvs, k, b, e, _, _, _⟩
  · obtain ⟨_, _, vs, _, dd⟩ := dk_rd I.hok e
    exact dd.typeIs
  · obtain ⟨_, _, xs, _, dd⟩ := dt_rd I.hok e
    exact dd.typeIs
end
def rGetS (K : PySem.W.Frag) : R2 := fun x y H Q => ∃ a v, x = .ref a ∧ DGetS K H a y (some v) ∧ Q v H
def rInS (K : PySem.W.Frag) (neg : Bool) : R2 := fun y x H Q => ∃ a o, x = .ref a ∧ DGetS K H a y o ∧ Q (.bl (if neg then !o.isSome else o.isSome)) H
section
variable {X : Cx} {o i e g value : Expr} {apos pos pos' cpos : Pos} {td ty tv tx : TE}
theorem ix_getS (hu : X.A.units + 1 < cLine) : IxR X (rGetS X.K) := by
  intro value slice pins s σ H x y v u Q I rx ry h hs
  obtain ⟨a, z, rfl, g, q⟩ := h
  obtain rfl : v = Value.ref a := rx
  exact tail_any (sd_typeIs I g) PySem.F.slot_dict_getitem.lookup (sd_getItem hu I g ry fun w' s' I' r' => ⟨z, H, I', r', q⟩) hs
theorem op_inS (hu : X.A.units + 1 < cLine) : OpR X (compareOp .In) (rInS X.K false) := by
  intro pins s σ H x y v u Q I rx ry h
  obtain ⟨a, o, rfl, g, q⟩ := h
  obtain rfl : u = Value.ref a := ry
  exact sd_in hu I g rx fun s' I' => ⟨.bl o.isSome, H, I', rfl, q⟩
end
/-! ### at data -/
def keyD : L2.Key → D
  | .inl i => .int i
  | .inr x => .str x
theorem leaf_keyD (k : L2.Key) : leaf (keyD k) = some (kV k) := by cases k <;> rfl
def keysD (ks : List L2.Key) : D := .tup (ks.map keyD)
theorem own_keys {K : PySem.W.Frag} {H : Hp} {F : Fp} : ∀ {ks : List L2.Key} {vs : List V}, vs.length = ks.length → Sep (OwnE K H) (vs.zip (ks.map keyD)) F → vs = ks.map kV
  | [], [], _, _ => rfl
  | k :: ks, v :: vs, hl, s => by
    have hl' : vs.length = ks.length := by simpa using hl
    have s' : Sep (OwnE K H) ((v, keyD k) :: vs.zip (ks.map keyD)) F := s
    obtain ⟨F1, F2, s1, s2, _, _, h5⟩ := s'
    show v :: vs = kV k :: ks.map kV
    rw [s1.of_leaf (leaf_keyD k), own_keys hl' (s2.monoF h5)]
  | [], _ :: _, hl, _ => nomatch hl
  | _ :: _, [], hl, _ => nomatch hl
inductive KeysOf : List D → List L2.Key → Prop
  | nil : KeysOf [] []
  | int {i : Int} {ds : List D} {ks : List L2.Key} : KeysOf ds ks → KeysOf (.int i :: ds) (.inl i :: ks)
  | str {i : Str} {ds : List D} {ks : List L2.Key} : KeysOf ds ks → KeysOf (.str i :: ds) (.inr i :: ks)
theorem KeysOf.eq {ds : List D} {ks : List L2.Key} (h : KeysOf ds ks) : ds = ks.map keyD := by
  induction h with
  | nil => rfl
  | int _ ih => rw [ih]; rfl
  | str _ ih => rw [ih]; rfl
inductive KeysR : List Rs → List L2.Key → Prop
  | nil : KeysR [] []
  | int {i : Int} {ds : List Rs} {ks : List L2.Key} : KeysR ds ks → KeysR (.v (.int i) :: ds) (.inl i :: ks)
  | str {i : Str} {ds : List Rs} {ks : List L2.Key} : KeysR ds ks → KeysR (.v (.str i) :: ds) (.inr i :: ks)
theorem KeysR.eq {ds : List Rs} {ks : List L2.Key} (h : KeysR ds ks) : ds = (ks.map keyD).map Rs.v := by
  induction h with
  | nil => rfl
  | int _ ih => rw [ih]; rfl
  | str _ ih => rw [ih]; rfl
section
variable {κ : Type} [DecidableEq κ]
def valD (kvs : List (κ × D)) (k : κ) : Option D := (kvs.find? fun kv => decide (kv.1 = k)).map (·.2)
def putD (kvs : List (κ × D)) (k : κ) (d : D) : List (κ × D) := if (kvs.any fun kv => decide (kv.1 = k)) = true then kvs.map fun kv => if kv.1 = k then (kv.1, d) else kv else kvs ++ [(k, d)]
def kEnt (k : κ) : List (κ × D) → Option (Nat × D)
  | [] => none
  | (g, d) :: r => if k = g then some (0, d) else match kEnt k r with
    | some (n, e) => some (n + 1, e)
    | none => none
theorem valD_cons {p : κ × D} {r : List (κ × D)} {k : κ} : valD (p :: r) k = if p.1 = k then some p.2 else valD r k := by
  unfold valD
  rw [List.find?_cons]
  by_cases e : p.1 = k
  · rw [if_pos e, decide_eq_true e]; rfl
  · rw [if_neg e, decide_eq_false e]
theorem kEnt_some {k : κ} : ∀ {fs : List (κ × D)} {n : Nat} {d : D}, kEnt k fs = some (n, d) → fs[n]? = some (k, d) ∧ ∀ vs : List V, vs.length = fs.length → ∃ v, vs[n]? = some v ∧ valV ((fs.map (·.1)).zip vs) k = some v
  | [], n, d, h => by cases h
  | (g, x) :: r, n, d, h => by
    unfold kEnt at h
    by_cases q : k = g
    · subst q
      rw [if_pos rfl] at h
      cases h
      refine ⟨rfl, fun vs hl => ?_⟩
      cases vs with
      | nil => cases hl
      | cons v vs => exact ⟨v, rfl, valV_pos rfl⟩
    · rw [if_neg q] at h
      cases e : kEnt k r with
      | none => rw [e] at h; cases h
      | some p =>
        obtain ⟨k', d'⟩ := p
        rw [e] at h
        cases h
        obtain ⟨h1, h2⟩ := kEnt_some e
        refine ⟨h1, fun vs hl => ?_⟩
        cases vs with
        | nil => cases hl
        | cons v vs =>
          obtain ⟨u, h3, h4⟩ := h2 vs (by simpa using hl)
          refine ⟨u, h3, ?_⟩
          show valV ((g, v) :: (r.map (·.1)).zip vs) k = some u
          rw [valV_neg (fun e => q e.symm)]
          exact h4
theorem kEnt_set {k : κ} {x : D} : ∀ {fs : List (κ × D)} {j : Nat} {d : D}, kEnt k fs = some (j, d) → kEnt k (setV fs j x) = some (j, x)
  | [], j, d, h => by cases h
  | (g, y) :: r, j, d, h => by
    unfold kEnt at h
    by_cases q : k = g
    · rw [if_pos q] at h
      cases h
      show kEnt k ((g, x) :: r) = _
      unfold kEnt
      rw [if_pos q]
    · rw [if_neg q] at h
      cases e : kEnt k r with
      | none => rw [e] at h; cases h
      | some p =>
        obtain ⟨k', d'⟩ := p
        rw [e] at h
        cases h
        have ih := kEnt_set (x := x) e
        show kEnt k ((g, y) :: setV r k' x) = _
        unfold kEnt
        rw [if_neg q, ih]
/-- what a key finds -/
theorem valD_zip {k : κ} : ∀ {kvs : List (κ × D)} {vs : List V}, vs.length = kvs.length → (valD kvs k = none → valV ((kvs.map (·.1)).zip vs) k = none) ∧ ∀ d, valD kvs k = some d → ∃ v, valV ((kvs.map (·.1)).zip vs) k = some v ∧ (v, d) ∈ vs.zip (kvs.map (·.2))
  | [], vs, hl => ⟨fun _ => by cases vs <;> rfl, fun d h => by cases h⟩
  | p :: kvs, v :: vs, hl => by
    obtain ⟨h1, h2⟩ := valD_zip (k := k) (kvs := kvs) (vs := vs) (by simpa using hl)
    have ev : valV (((p :: kvs).map (·.1)).zip (v :: vs)) k = if p.1 = k then some v else valV ((kvs.map (·.1)).zip vs) k := by
      show valV ((p.1, v) :: (kvs.map (·.1)).zip vs) k = _
      by_cases e : p.1 = k
      · rw [if_pos e, valV_pos e]
      · rw [if_neg e, valV_neg e]
    rw [ev, valD_cons]
    by_cases e : p.1 = k
    · rw [if_pos e, if_pos e]
      refine ⟨fun q => (nomatch q), fun d q => ?_⟩
      cases q
      exact ⟨v, rfl, List.mem_cons_self⟩
    · rw [if_neg e, if_neg e]
      refine ⟨h1, fun d q => ?_⟩
      obtain ⟨u, h3, h4⟩ := h2 d q
      exact ⟨u, h3, List.mem_cons_of_mem _ h4⟩
  | _ :: _, [], hl => nomatch hl
theorem valD_isSome {k : κ} {kvs : List (κ × D)} {vs : List V} (hl : vs.length = kvs.length) : (valV ((kvs.map (·.1)).zip vs) k).isSome = (valD kvs k).isSome := by
  obtain ⟨h1, h2⟩ := valD_zip (k := k) hl
  cases q : valD kvs k with
  | none => rw [h1 q]; rfl
  | some d => obtain ⟨v, h3, _⟩ := h2 d q; rw [h3]; rfl
theorem any_zip {k : κ} : ∀ {kvs : List (κ × D)} {vs : List V}, vs.length = kvs.length → (((kvs.map (·.1)).zip vs).any fun kv => decide (kv.1 = k)) = kvs.any fun kv => decide (kv.1 = k)
  | [], vs, _ => by cases vs <;> rfl
  | p :: kvs, v :: vs, hl => by
    have ih := any_zip (k := k) (kvs := kvs) (vs := vs) (by simpa using hl)
    show (decide (p.1 = k) || ((kvs.map (·.1)).zip vs).any _) = (decide (p.1 = k) || kvs.any _)
    rw [ih]
  | _ :: _, [], hl => nomatch hl
def putVs (kvs : List (κ × D)) (k : κ) (y : V) (vs : List V) : List V := if (kvs.any fun kv => decide (kv.1 = k)) = true then List.zipWith (fun kv v => if kv.1 = k then y else v) kvs vs else vs ++ [y]
theorem putD_zip {k : κ} {y : V} {d : D} {kvs : List (κ × D)} {vs : List V} (hl : vs.length = kvs.length) : putK ((kvs.map (·.1)).zip vs) k y = ((putD kvs k d).map (·.1)).zip (putVs kvs k y vs) ∧ (putVs kvs k y vs).length = (putD kvs k d).length := by
  unfold putK putD putVs
  rw [any_zip hl]
  by_cases q : (kvs.any fun kv => decide (kv.1 = k)) = true
  · rw [if_pos q, if_pos q, if_pos q]
    clear q
    induction kvs generalizing vs with
    | nil => cases vs <;> exact ⟨rfl, rfl⟩
    | cons p kvs ih =>
      cases vs with
      | nil => cases hl
      | cons v vs =>
        obtain ⟨i1, i2⟩ := ih (vs := vs) (by simpa using hl)
        constructor
        · show (if p.1 = k then (p.1, y) else (p.1, v)) :: (((kvs.map (·.1)).zip vs).map fun kv => if kv.1 = k then (kv.1, y) else kv) = ((if p.1 = k then (p.1, d) else p).1, if p.1 = k then y else v) :: ((kvs.map fun kv => if kv.1 = k then (kv.1, d) else kv).map (·.1)).zip (List.zipWith (fun kv v => if kv.1 = k then y else v) kvs vs)
          rw [i1]
          by_cases e : p.1 = k
          · rw [if_pos e, if_pos e, if_pos e]
          · rw [if_neg e, if_neg e, if_neg e]
        · simp only [List.length_zipWith, List.length_map, List.length_cons] at i2 ⊢
          have : vs.length = kvs.length := by simpa using hl
          omega
  · rw [if_neg q, if_neg q, if_neg q]
    refine ⟨?_, by simp [hl]⟩
    rw [List.map_append, List.zip_append (by simp [hl])]
    rfl
theorem putD_sep {K : PySem.W.Frag} {H : Hp} {k : κ} {y : V} {d : D} (hy : OwnE K H y d fun _ => False) : ∀ {kvs : List (κ × D)} {vs : List V} {F : Fp}, vs.length = kvs.length → Sep (OwnE K H) (vs.zip (kvs.map (·.2))) F → Sep (OwnE K H) ((putVs kvs k y vs).zip ((putD kvs k d).map (·.2))) F := by
  intro kvs vs F hl s
  unfold putVs putD
  by_cases q : (kvs.any fun kv => decide (kv.1 = k)) = true
  · rw [if_pos q, if_pos q]
    clear q
    induction kvs generalizing vs F with
    | nil => cases vs <;> trivial
    | cons p kvs ih =>
      cases vs with
      | nil => cases hl
      | cons v vs =>
        have s' : Sep (OwnE K H) ((v, p.2) :: vs.zip (kvs.map (·.2))) F := s
        show Sep (OwnE K H) ((if p.1 = k then y else v, (if p.1 = k then (p.1, d) else p).2) :: _) F
        obtain ⟨F1, F2, s1, s2, h3, h4, h5⟩ := s'
        have s3 := ih (vs := vs) (by simpa using hl) s2
        by_cases e : p.1 = k
        · rw [if_pos e, if_pos e]
          exact ⟨F1, F2, hy.monoF fun _ q => q.elim, s3, h3, h4, h5⟩
        · rw [if_neg e, if_neg e]
          exact ⟨F1, F2, s1, s3, h3, h4, h5⟩
  · rw [if_neg q, if_neg q, List.map_append, zip_app (by simpa using hl)]
    have := Sep.append s (show Sep (OwnE K H) ([y].zip ([(k, d)].map (·.2))) (fun _ => False) from ⟨_, fun _ => False, hy, trivial, fun _ q => q.elim, fun _ q => q, fun _ q => q⟩) (fun _ _ q => q)
    exact this.monoF fun x q => q.elim (fun q => q) fun q => q.elim
end
section
variable {K : PySem.W.Frag} {H : Hp} {v : V} {F : Fp}
theorem own_dK {kvs : List (L2.Key × D)} (o : OwnE K H v (.dK kvs) F) : ∃ p vs, v = .ref p ∧ H p = some (.dK ((kvs.map (·.1)).zip vs)) ∧ vs.length = kvs.length ∧ ∃ F', Sep (OwnE K H) (vs.zip (kvs.map (·.2))) F' := by
  obtain ⟨a, vs, rfl, h2, h3, F', h4, _⟩ := o.of_node rfl (fun _ _ q => nomatch q)
  exact ⟨a, vs, rfl, h2, by simpa [kids] using h3, F', h4⟩
theorem own_dT {kvs : List (List L2.Key × D)} (o : OwnE K H v (.dT kvs) F) : ∃ p vs, v = .ref p ∧ H p = some (.dT ((kvs.map (·.1)).zip vs)) ∧ vs.length = kvs.length ∧ ∃ F', Sep (OwnE K H) (vs.zip (kvs.map (·.2))) F' := by
  obtain ⟨a, vs, rfl, h2, h3, F', h4, _⟩ := o.of_node rfl (fun _ _ q => nomatch q)
  exact ⟨a, vs, rfl, h2, by simpa [kids] using h3, F', h4⟩
theorem own_keysD {ks : List L2.Key} (o : OwnE K H v (keysD ks) F) : ∃ b, v = .ref b ∧ SqT K H b (ks.map kV) := by
  obtain ⟨p, vs, rfl, hs, hl, F', s⟩ := own_tup (ds := ks.map keyD) o
  rw [own_keys (by simpa using hl) s] at hs
  exact ⟨p, rfl, hs⟩
end
end Dl

namespace Dl
open PySem PySem.Spec PyProof.Rows L2
/-! ### x[i], of all sorts -/
def Op2R (K : PySem.W.Frag) (f : Fm) (δ : Env) (r : R2) (ra rb : Rs) (P : Rs → Env → Prop) : Prop :=
  ∀ (H : Hp) (σ : L2.St) (T : List (V × Rs)) (x y : V) (Q : VK), Rp K f H σ δ ((y, rb) :: (x, ra) :: T) → (∀ r' δ' v H', P r' δ' → Rp K f H' σ δ' ((v, r') :: T) → Q v H') → r x y H Q
inductive GetS (δ : Env) : Rs → Rs → (Rs → Env → Prop) → Prop
  | seq {ra : Rs} {d : D} {ds : List D} {i : Int} {d' : D} {P : Rs → Env → Prop} : rsv δ ra = some d → itemsOf d = some ds → atI ds i = some d' → Imm d' → P (.v d') δ → GetS δ ra (.v (.int i)) P
  | str {z : Str} {i : Int} {c : Nat} {P : Rs → Env → Prop} : z.length ≤ sizeLine → atI z.cps.toList i = some c → P (.v (.str ⟨#[c]⟩)) δ → GetS δ (.v (.str z)) (.v (.int i)) P
  | dT {ra rb : Rs} {kvs : List (List L2.Key × D)} {ks : List L2.Key} {d : D} {P : Rs → Env → Prop} : rsv δ ra = some (.dT kvs) → rsv δ rb = some (keysD ks) → valD kvs ks = some d → Imm d → P (.v d) δ → GetS δ ra rb P
  | lT {ra rb : Rs} {od : Obj} {ws : List (List L2.Key × V)} {kvs : List (List L2.Key × D)} {ks : List L2.Key} {d : D} {P : Rs → Env → Prop} : rsv δ ra = some (.lkT od ws kvs) → rsv δ rb = some (keysD ks) → valD kvs ks = some d → Imm d → P (.v d) δ → GetS δ ra rb P
  | dK {ra rb : Rs} {kvs : List (L2.Key × D)} {k : L2.Key} {d : D} {P : Rs → Env → Prop} : rsv δ ra = some (.dK kvs) → rb = .v (keyD k) → valD kvs k = some d → Imm d → P (.v d) δ → GetS δ ra rb P
  /-- a part that may be changed, at a text's key -/
  | dKtS {i : Nat} {kvs : List (L2.Key × D)} {x : Str} {j : Nat} {u : V} {d : D} {P : Rs → Env → Prop} : δ[i]? = some (some (.dK kvs)) → kEnt (.inr x) kvs = some (j, .tg u d) → P (.p u i [j]) δ → GetS δ (.s i) (.v (.str x)) P
  | dKs {i : Nat} {kvs : List (L2.Key × D)} {x : Str} {j : Nat} {d : D} {P : Rs → Env → Prop} : δ[i]? = some (some (.dK kvs)) → kEnt (.inr x) kvs = some (j, d) → (∀ u, P (.p u i [j]) (δ.set i (some (.dK (setV kvs j (.tg u d)))))) → GetS δ (.s i) (.v (.str x)) P
  | seqtS {i : Nat} {c : D} {ds : List D} {z : Int} {j : Nat} {u : V} {d : D} {P : Rs → Env → Prop} : δ[i]? = some (some c) → itemsOf c = some ds → ixN ds.length z = some j → ds[j]? = some (.tg u d) → P (.p u i [j]) δ → GetS δ (.s i) (.v (.int z)) P
  | seqs {i : Nat} {c : D} {ds : List D} {z : Int} {j : Nat} {d : D} {P : Rs → Env → Prop} : δ[i]? = some (some c) → itemsOf c = some ds → ixN ds.length z = some j → ds[j]? = some d → (∀ u, P (.p u i [j]) (δ.set i (some (setK0 c j (.tg u d))))) → GetS δ (.s i) (.v (.int z)) P
  | seqtP {w : V} {i : Nat} {π : List Nat} {c : D} {ds : List D} {z : Int} {j : Nat} {u : V} {d : D} {P : Rs → Env → Prop} : getP δ i π = some (.tg w c) → itemsOf c = some ds → ixN ds.length z = some j → ds[j]? = some (.tg u d) → P (.p u i (π ++ [j])) δ → GetS δ (.p w i π) (.v (.int z)) P
  | seqp {w : V} {i : Nat} {π : List Nat} {c : D} {ds : List D} {z : Int} {j : Nat} {d : D} {P : Rs → Env → Prop} : getP δ i π = some (.tg w c) → itemsOf c = some ds → ixN ds.length z = some j → ds[j]? = some d → (∀ u, P (.p u i (π ++ [j])) (setP δ i π (.tg w (setK0 c j (.tg u d))))) → GetS δ (.p w i π) (.v (.int z)) P
  | seqv {c : D} {ds : List D} {z : Int} {j : Nat} {d : D} {P : Rs → Env → Prop} : itemsOf c = some ds → ixN ds.length z = some j → ds[j]? = some d → P (.v d) δ → GetS δ (.v c) (.v (.int z)) P
  | seqpi {w : V} {i : Nat} {π : List Nat} {c : D} {ds : List D} {z : Int} {d' : D} {P : Rs → Env → Prop} : getP δ i π = some (.tg w c) → itemsOf c = some ds → atI ds z = some d' → Imm d' → P (.v d') (setP δ i π c) → GetS δ (.p w i π) (.v (.int z)) P
def rGetA (K : PySem.W.Frag) : R2 := fun x y H Q => rIx K x y H Q ∨ rGetS K x y H Q
theorem IxR.orA {X : Cx} {r r' : R2} (a : IxR X r) (b : IxR X r') : IxR X fun x y H Q => r x y H Q ∨ r' x y H Q := fun value slice pins s σ H x y v u Q I rx ry h hs => h.elim (fun h => a value slice pins s σ H x y v u Q I rx ry h hs) fun h => b value slice pins s σ H x y v u Q I rx ry h hs
theorem ix_getA {X : Cx} (hu : X.A.units + 1 < cLine) : IxR X (rGetA X.K) := IxR.orA ix_seq (ix_getS hu)
theorem items_kids {c : D} {ds : List D} (h : itemsOf c = some ds) : kids c = ds := by
  cases c <;> first | (cases h; done) | (cases h; rfl)
theorem items_setK0 {c x : D} {ds : List D} {j : Nat} (h : itemsOf c = some ds) : itemsOf (setK0 c j x) = some (ds.set j x) := by
  cases c <;> first | (cases h; done) | (cases h; rfl)
theorem seq_val {K : PySem.W.Frag} {f : Fm} {δ : Env} {H : Hp} {σ : L2.St} {T : List (V × Rs)} {v : V} {r : Rs} {c d : D} {ds : List D} {z : Int} {j : Nat} (R : Rp K f H σ δ ((v, r) :: T)) (h : rsv δ r = some c) (hi : itemsOf c = some ds) (hz : ixN ds.length z = some j) (hd : ds[j]? = some d) :
    ∃ x F, OwnE K H x d F ∧ ∀ Q : VK, Q x H → rIx K v (.int z) H Q := by
  obtain ⟨F, o⟩ := R.res (v := v) (r := r) (by simp) h
  obtain ⟨p, vs, rfl, hs, hl, F', sp⟩ := own_items o hi
  have ha : atI ds z = some d := by unfold atI; rw [hz]; exact hd
  obtain ⟨x, e1, e2⟩ := atI_zip hl ha
  obtain ⟨F2, o2, _⟩ := sp.getm e2
  refine ⟨x, F2, o2, fun Q q => ?_⟩
  rcases hs with hs | hs
  · exact .inl ⟨p, vs, z, x, rfl, rfl, hs, e1, q⟩
  · exact .inr (.inl ⟨p, vs, z, x, rfl, rfl, hs, e1, q⟩)
theorem own_itemsF {K : PySem.W.Frag} {H : Hp} {v : V} {d : D} {ds : List D} {F : Fp} (o : OwnE K H v d F) (h : itemsOf d = some ds) : ∃ p vs, v = .ref p ∧ (SqL K H p vs ∨ SqT K H p vs) ∧ vs.length = ds.length ∧ ∃ F', Sep (OwnE K H) (vs.zip ds) F' ∧ ∀ x, F' x → F x := by
  cases d with
  | tup xs =>
    cases h
    obtain ⟨a, vs, rfl, h2, h3, F', h4, h5, _⟩ := o.of_node rfl (fun _ _ q => nomatch q)
    exact ⟨a, vs, rfl, .inr h2, h3, F', h4, h5⟩
  | tk xs =>
    cases h
    obtain ⟨a, vs, rfl, h2, h3, F', h4, h5, _⟩ := o.of_node rfl (fun _ _ q => nomatch q)
    exact ⟨a, vs, rfl, .inr (.inl (.inl h2)), h3, F', h4, h5⟩
  | lst xs =>
    cases h
    obtain ⟨a, vs, rfl, h2, h3, F', h4, h5, _⟩ := o.of_node rfl (fun _ _ q => nomatch q)
    exact ⟨a, vs, rfl, .inl (SqL.of h2), h3, F', h4, h5⟩
  | fz xs =>
    cases h
    obtain ⟨a, vs, rfl, h2, h3, F', h4, h5, _⟩ := o.of_node rfl (fun _ _ q => nomatch q)
    refine ⟨a, vs, rfl, .inl ?_, h3, F', h4, h5⟩
    rcases h2 with ⟨o, h2⟩ | h2
    · exact .inl (.inr ⟨o, h2⟩)
    · exact .inr h2
  | _ => cases h
theorem seq_valv {K : PySem.W.Frag} {f : Fm} {δ : Env} {H : Hp} {σ : L2.St} {T : List (V × Rs)} {v : V} {c d : D} {ds : List D} {z : Int} {j : Nat} (R : Rp K f H σ δ ((v, .v c) :: T)) (hi : itemsOf c = some ds) (hz : ixN ds.length z = some j) (hd : ds[j]? = some d) :
    ∃ x, Rp K f H σ δ ((x, .v d) :: T) ∧ ∀ Q : VK, Q x H → rIx K v (.int z) H Q := by
  obtain ⟨F, s, k⟩ := R.own
  obtain ⟨F1, F2, h1, h2, h3, h4, h5⟩ := s
  obtain ⟨p, vs, ep, hs, hlen, F', sp, hsub⟩ := own_itemsF h1 hi
  have ep' : v = .ref p := ep
  subst ep'
  have ha : atI ds z = some d := by unfold atI; rw [hz]; exact hd
  obtain ⟨x, e1, e2⟩ := atI_zip hlen ha
  obtain ⟨F4, o4, s4⟩ := sp.getm e2
  refine ⟨x, ⟨R.len, R.has, ⟨F, ⟨F4, F2, o4, h2, fun y q => h3 y (hsub y (s4 y q)), fun y q => h4 y (hsub y (s4 y q)), h5⟩, k⟩, fun c m j e => ?_, R.fr, R.tx, R.pin⟩, fun Q q => ?_⟩
  · rcases List.mem_cons.mp m with m | m
    · rw [m] at e; cases e
    · exact R.tmp c (List.mem_cons_of_mem _ m) j e
  · rcases hs with hs | hs
    · exact .inl ⟨p, vs, z, x, rfl, rfl, hs, e1, q⟩
    · exact .inr (.inl ⟨p, vs, z, x, rfl, rfl, hs, e1, q⟩)
theorem dK_val {K : PySem.W.Frag} {f : Fm} {δ : Env} {H : Hp} {σ : L2.St} {T : List (V × Rs)} {v : V} {r : Rs} {d : D} {kvs : List (L2.Key × D)} {k : L2.Key} {j : Nat} (R : Rp K f H σ δ ((v, r) :: T)) (h : rsv δ r = some (.dK kvs)) (hk : kEnt k kvs = some (j, d)) :
    ∃ x F, OwnE K H x d F ∧ ∀ Q : VK, Q x H → rGetS K v (kV k) H Q := by
  obtain ⟨F, o⟩ := R.res (v := v) (r := r) (by simp) h
  obtain ⟨p, vs, rfl, hp, hl, F', sp⟩ := own_dK o
  obtain ⟨h1, h2⟩ := kEnt_some hk
  obtain ⟨x, h3, h4⟩ := h2 vs hl
  have hz : (vs.zip (kvs.map (·.2)))[j]? = some (x, d) := by
    rw [List.getElem?_zip_eq_some, List.getElem?_map, h1]
    exact ⟨h3, rfl⟩
  obtain ⟨F2, o2, _⟩ := sp.get hz
  exact ⟨x, F2, o2, fun Q q => ⟨p, x, rfl, .inl ⟨_, k, .inl hp, rfl, h4.symm⟩, q⟩⟩
theorem kEnt_kid {κ : Type} [DecidableEq κ] {k : κ} {kvs : List (κ × D)} {j : Nat} {d : D} (h : kEnt k kvs = some (j, d)) : (kvs.map (·.2))[j]? = some d := by
  rw [List.getElem?_map, (kEnt_some h).1]
  rfl
theorem GetS.op {K : PySem.W.Frag} {f : Fm} {δ : Env} {ra rb : Rs} {P : Rs → Env → Prop} (h : GetS δ ra rb P) : Op2R K f δ (rGetA K) ra rb P := by
  cases h with
  | seq h1 h2 h3 h4 p => exact fun H σ T x y Q R q => .inl (op2_ix (P := fun d => d = _) h1 h2 h3 h4 rfl H σ T x y Q R fun d v H' e R' => q _ _ _ _ p (e ▸ R'))
  | seqpi h1 h2 h3 h4 p => exact fun H σ T x y Q R q => .inl (op2_ix (P := fun d => d = _) (rsv_p h1) h2 h3 h4 rfl H σ T x y Q R fun d v H' e R' => q _ _ _ _ p (e ▸ R'.untagP h1))
  | str h1 h2 p => exact fun H σ T x y Q R q => .inl (op2_ixS (P := fun d => d = _) h1 h2 rfl H σ T x y Q R fun d v H' e R' => q _ _ _ _ p (e ▸ R'))
  | @dT _ _ kvs ks d _ h1 h2 h3 h4 p =>
    intro H σ T x y Q R q
    obtain ⟨F1, o1⟩ := R.res (v := x) (r := ra) (by simp) h1
    obtain ⟨F2, o2⟩ := R.res (v := y) (r := rb) (by simp) h2
    obtain ⟨a, vs, rfl, hp, hl, F', s⟩ := own_dT o1
    obtain ⟨b, rfl, hs⟩ := own_keysD o2
    obtain ⟨v, e1, e2⟩ := (valD_zip (k := ks) hl).2 d h3
    obtain ⟨F3, o3, _⟩ := s.getm e2
    exact .inr ⟨a, v, rfl, .inr ⟨_, ks, b, .inl hp, rfl, hs, e1.symm⟩, q _ _ _ _ p (R.tail2.pushI o3 h4)⟩
  | @lT _ _ od ws0 kvs ks d _ h1 h2 h3 h4 p =>
    intro H σ T x y Q R q
    obtain ⟨F1, o1⟩ := R.res (v := x) (r := ra) (by simp) h1
    obtain ⟨F2, o2⟩ := R.res (v := y) (r := rb) (by simp) h2
    obtain ⟨a, vs, rfl, ⟨hp, ew⟩, hl0, F', s, _⟩ := o1.of_node rfl (fun _ _ q => nomatch q)
    have hl : vs.length = kvs.length := by simpa [kids] using hl0
    subst ew
    obtain ⟨b, rfl, hs⟩ := own_keysD o2
    obtain ⟨v, e1, e2⟩ := (valD_zip (k := ks) hl).2 d h3
    obtain ⟨F3, o3, _⟩ := s.getm e2
    exact .inr ⟨a, v, rfl, .inr ⟨_, ks, b, .inr ⟨od, hp⟩, rfl, hs, e1.symm⟩, q _ _ _ _ p (R.tail2.pushI o3 h4)⟩
  | @dK _ _ kvs k d _ h1 erb h3 h4 p =>
    intro H σ T x y Q R q
    subst erb
    obtain ⟨F1, o1⟩ := R.res (v := x) (r := ra) (by simp) h1
    have ey := R.vleaf (v := y) (by simp) (leaf_keyD k)
    subst ey
    obtain ⟨a, vs, rfl, hp, hl, F', s⟩ := own_dK o1
    obtain ⟨v, e1, e2⟩ := (valD_zip (k := k) hl).2 d h3
    obtain ⟨F3, o3, _⟩ := s.getm e2
    exact .inr ⟨a, v, rfl, .inl ⟨_, k, .inl hp, rfl, e1.symm⟩, q _ _ _ _ p (R.tail2.pushI o3 h4)⟩
  | @dKtS i kvs x0 j u d _ h1 h2 p =>
    intro H σ T x y Q R q
    cases R.vstr (v := y) (i := x0) (by simp)
    obtain ⟨z, F, o, g⟩ := dK_val R.tail (show rsv δ (.s i) = some (.dK kvs) by show δ[i]?.join = _; rw [h1]; rfl) h2
    have e := o.of_tg.1
    subst e
    exact .inr (g Q (q _ _ _ _ p R.tail2.pushP))
  | @dKs i kvs x0 j d _ h1 h2 p =>
    intro H σ T x y Q R q
    cases R.vstr (v := y) (i := x0) (by simp)
    obtain ⟨u, R2⟩ := R.partS h1 (show (kids (.dK kvs))[j]? = some d from kEnt_kid h2)
    have hi := (List.getElem?_eq_some_iff.mp h1).1
    obtain ⟨z, F, o, g⟩ := dK_val R2.tail (show rsv _ (.s i) = some (.dK (setV kvs j (.tg u d))) by show ((δ.set i _)[i]?).join = _; rw [List.getElem?_set_self hi]; rfl) (kEnt_set h2)
    have e := o.of_tg.1
    subst e
    exact .inr (g Q (q _ _ _ _ (p z) R2.tail2.pushP))
  | @seqtS i c ds z j u d _ h1 h2 h3 h4 p =>
    intro H σ T x y Q R q
    cases R.vint (v := y) (i := z) (by simp)
    obtain ⟨x', F, o, g⟩ := seq_val R.tail (show rsv δ (.s i) = some c by show δ[i]?.join = _; rw [h1]; rfl) h2 h3 h4
    have e := o.of_tg.1
    subst e
    exact .inl (g Q (q _ _ _ _ p R.tail2.pushP))
  | @seqv c ds z j d _ h2 h3 h4 p =>
    intro H σ T x y Q R q
    cases R.vint (v := y) (i := z) (by simp)
    obtain ⟨x', R2, g⟩ := seq_valv R.tail h2 h3 h4
    exact .inl (g Q (q _ _ _ _ p R2))
  | @seqs i c ds z j d _ h1 h2 h3 h4 p =>
    intro H σ T x y Q R q
    cases R.vint (v := y) (i := z) (by simp)
    obtain ⟨u, R2⟩ := R.partS h1 (show (kids c)[j]? = some d by rw [items_kids h2]; exact h4)
    have hi := (List.getElem?_eq_some_iff.mp h1).1
    have hj := (List.getElem?_eq_some_iff.mp h4).1
    obtain ⟨x', F, o, g⟩ := seq_val R2.tail (show rsv _ (.s i) = some (setK0 c j (.tg u d)) by show ((δ.set i _)[i]?).join = _; rw [List.getElem?_set_self hi]; rfl) (items_setK0 h2) (by rw [List.length_set]; exact h3) (List.getElem?_set_self hj)
    have e := o.of_tg.1
    subst e
    exact .inl (g Q (q _ _ _ _ (p x') R2.tail2.pushP))
  | @seqtP w i π c ds z j u d _ h1 h2 h3 h4 p =>
    intro H σ T x y Q R q
    cases R.vint (v := y) (i := z) (by simp)
    obtain ⟨x', F, o, g⟩ := seq_val R.tail (rsv_p h1) h2 h3 h4
    have e := o.of_tg.1
    subst e
    exact .inl (g Q (q _ _ _ _ p R.tail2.pushP))
  | @seqp w i π c ds z j d _ h1 h2 h3 h4 p =>
    intro H σ T x y Q R q
    cases R.vint (v := y) (i := z) (by simp)
    obtain ⟨u, R2⟩ := R.partP h1 (show (kids c)[j]? = some d by rw [items_kids h2]; exact h4)
    have hj := (List.getElem?_eq_some_iff.mp h4).1
    obtain ⟨x', F, o, g⟩ := seq_val R2.tail (rsv_p (getP_setP h1)) (items_setK0 h2) (by rw [List.length_set]; exact h3) (List.getElem?_set_self hj)
    have e := o.of_tg.1
    subst e
    exact .inl (g Q (q _ _ _ _ (p x') R2.tail2.pushP))
/-- d.get(k, e) -/
inductive Get2S (δ : Env) : Rs → Rs → D → (D → Prop) → Prop
  | dT {ra rb : Rs} {kvs : List (List L2.Key × D)} {ks : List L2.Key} {d : D} {P : D → Prop} : rsv δ ra = some (.dT kvs) → rsv δ rb = some (keysD ks) → (∀ c ∈ kvs, Imm c.2) → P ((valD kvs ks).getD d) → Get2S δ ra rb d P
  | dK {ra rb : Rs} {kvs : List (L2.Key × D)} {k : L2.Key} {d : D} {P : D → Prop} : rsv δ ra = some (.dK kvs) → rb = .v (keyD k) → (∀ c ∈ kvs, Imm c.2) → P ((valD kvs k).getD d) → Get2S δ ra rb d P
section
variable {X : Cx} {f : Fm} {δ δ' : Env} {e a b c o g i : Expr} {es rest : List Expr} {st : Stmt} {sts : List Stmt} {pos p2 : Pos} {Ψ : Rs → Env → Prop} {Θ : Bool → Env → Prop} {Λ : List Rs → Env → Prop} {Φ : Ph} {k : Nat}
theorem de_get (hr : Room k X.A) (h : DE X f δ a fun ra δ1 => DE X f δ1 b fun rb δ2 => GetS δ2 ra rb Ψ) (hs : PlainIx b := by exact fun _ _ => rfl) : DE X f δ (.Subscript a b pos) Ψ :=
  DE.of (pe_ix (ix_getA (by have := hr.un; omega)) h.h (pe_u (f := f)) hs) fun σ H Q ⟨T, R, q⟩ => ⟨T, R, fun ra δ1 x H1 hb R1 => ⟨δ1, _, hb, (x, ra) :: T, R1, fun rb δ2 y H2 ho R2 => ho.op H2 σ T x y Q R2 fun r' δ' v H' p R' => q _ _ _ _ p R'⟩⟩
end
end Dl

namespace Dl
open PySem PySem.Spec PyProof.Rows L2
/-! ### changes of what a result names -/
section
variable {K : PySem.W.Frag} {f : Fm} {H : Hp} {σ : L2.St} {δ : Env} {T : List (V × Rs)} {v : V} {r : Rs}
theorem Rp.mutR {c : D} {cs : List (V × Rs)} (R : Rp K f H σ δ ((v, r) :: (cs ++ T))) (h : rsv δ r = some c) (hm : isMut c = true) :
    ∃ a vs, v = .ref a ∧ Node K H c a vs ∧ vs.length = (kids c).length ∧ ∀ (o : HO) (c' : D) (vs' : List V), Node K (upd H a o) c' a vs' → isMut c' = true → vs'.length = (kids c').length →
      (∀ F, Sep (OwnE K (upd H a o)) (vs.zip (kids c) ++ cs.map tc) F → Sep (OwnE K (upd H a o)) (vs'.zip (kids c')) F) → (∀ o' u, H a ≠ some (.frz o' u)) → Rp K f (upd H a o) σ (setR δ r c') T := by
  have R1 := R.outR h
  have pl := Plc.of R h
  obtain ⟨F, o⟩ := R1.res (v := v) (r := .v c) (by simp) rfl
  have hl : leaf c = none := by cases c <;> first | rfl | cases hm
  have ht : ∀ w e, c ≠ .tg w e := by intro w e q; subst q; cases hm
  obtain ⟨a, _, rfl, _⟩ := o.of_node hl ht
  obtain ⟨vs, n1, l1, ch⟩ := Rp.change R1 hm
  refine ⟨a, vs, rfl, n1, l1, fun o c' vs' h1 h2 h3 h4 h5 => ?_⟩
  exact Rp.backR (ch o c' vs' h1 h2 h3 h4 h5) pl
end
def rPutS (K : PySem.W.Frag) : TSet := fun o i v H Q => ∃ a H', o = .ref a ∧ DPutS K H a i v H' ∧ Q H'
theorem set_dictS {X : Cx} (hu : X.A.units + 1 < cLine) : PSet X (rPutS X.K) := by
  intro pins s σ H o i v ov iv u Q I ro ri rv h
  obtain ⟨a, H', rfl, g, q⟩ := h
  obtain rfl : ov = Value.ref a := ro
  exact sd_setItem hu I g ri rv fun s' I' => ⟨H', I', q⟩
theorem PSet.orA {X : Cx} {t t' : TSet} (a : PSet X t) (b : PSet X t') : PSet X fun o i v H Q => t o i v H Q ∨ t' o i v H Q := by
  intro pins s σ H o i v ov iv u Q I ro ri rv h
  rcases h with h | h
  · exact a pins s σ H o i v ov iv u Q I ro ri rv h
  · exact b pins s σ H o i v ov iv u Q I ro ri rv h
/-- x[i] = e -/
inductive StoS (δ : Env) : Rs → Rs → D → (Env → Prop) → Prop
  | lst {ro : Rs} {xs : List D} {i : Int} {m : Nat} {d : D} {P : Env → Prop} : rsv δ ro = some (.lst xs) → ixN xs.length i = some m → P (setR δ ro (.lst (xs.set m d))) → StoS δ ro (.v (.int i)) d P
  | dK {ro ri : Rs} {kvs : List (L2.Key × D)} {k : L2.Key} {d : D} {P : Env → Prop} : rsv δ ro = some (.dK kvs) → ri = .v (keyD k) → Imm d → kvs.length < sizeLine → P (setR δ ro (.dK (putD kvs k d))) → StoS δ ro ri d P
  | dT {ro ri : Rs} {kvs : List (List L2.Key × D)} {ks : List L2.Key} {d : D} {P : Env → Prop} : rsv δ ro = some (.dT kvs) → rsv δ ri = some (keysD ks) → (valD kvs ks).isSome = true → Imm d → kvs.length < sizeLine → P (setR δ ro (.dT (putD kvs ks d))) → StoS δ ro ri d P
section
variable {X : Cx} {f : Fm} {δ δ' : Env} {e a b c o g i : Expr} {es rest : List Expr} {st : Stmt} {sts : List Stmt} {pos p2 p3 : Pos} {Ψ : Rs → Env → Prop} {Θ : Bool → Env → Prop} {Λ : List Rs → Env → Prop} {Φ : Ph} {k : Nat}
variable {N : List Str} {sc : Scope} {Pr : Program} {w : World} {K : PySem.W.Frag} {mg : Str → Option Value} {base : Heap}
theorem ds_sto (hr : Room k X.A) (h : DE X f δ e fun r δ1 => ∃ d δ2, Take δ1 r d δ2 ∧ DE X f δ2 o fun ro δ3 => DE X f δ3 i fun ri δ4 => StoS δ4 ro ri d Φ.nx)
    (hs : swapsWithSole [.Subscript o i p3] e pos.line X.env = pure false := by rfl) (hw : swappedStores [.Subscript o i p3] e X.env = pure none := by rfl) (h1 : (assignEach [.Subscript o i p3] X.env).map (·.2) = [assign (.Subscript o i p3) X.env] := by rfl)
    (ha : ∀ v, assign (.Subscript o i p3) X.env v = (do let ov ← holding [v] (eval o X.env); let iv ← holding [v, ov] (eval i X.env); standAt p3; holding [v, ov, iv] (setItem ov iv v); release [v, ov, iv] []) := by intro _; rfl) : DS X f δ (.Assign [.Subscript o i p3] e pos) Φ :=
  DS.of (ps_asg h.h (pg_sub (pe_u (f := f)) (pe_u (f := f)) (PSet.orA set_list (set_dictS (by have := hr.un; omega))) ha) hs hw h1) fun E σ H ⟨T, R, n, r, b, c⟩ => ⟨tv T, R, fun r' δ1 v H1 ⟨d, δ2, t, k⟩ R1 =>
    ⟨δ2, _, k, _, t.rp R1, fun ro δ3 x H3 k3 R3 => ⟨δ3, _, k3, _, R3, fun ri δ4 y H4 k4 R4 => by
      have R5 : Rp X.K f H4 σ δ4 ((x, ro) :: ([(v, Rs.v d)] ++ tv T)) := R4.tail
      cases k4 with
      | lst hj hx k5 =>
        rename_i xs i m
        cases R4.vint (v := y) (i := i) (by simp)
        obtain ⟨l, vs, rfl, n1, l1, ch⟩ := R5.mutR hj rfl
        have n1' : H4 l = some (.lst vs) := n1
        refine .inl ⟨l, vs, i, m, rfl, rfl, n1, by rw [show vs.length = xs.length from l1]; exact hx, ?_⟩
        refine n _ _ _ k5 (ch (.lst (vs.set m v)) (.lst (xs.set m d)) (vs.set m v) (show upd H4 l _ l = _ from upd_same) rfl (by have e : vs.length = xs.length := l1; simp [kids, e]) (fun F s => ?_) (fun o u q => by rw [n1'] at q; cases q))
        have s' := s.perm (show ((vs.zip xs) ++ [(v, d)]).Perm ((v, d) :: vs.zip xs) from List.perm_append_comm)
        show Sep _ ((vs.set m v).zip (xs.set m d)) F
        rw [zip_set]
        exact s'.put
      | dK hj eri im hz k5 =>
        rename_i kvs ky
        subst eri
        have ey := R4.vleaf (v := y) (by simp) (leaf_keyD ky)
        subst ey
        obtain ⟨F0, o0⟩ := R4.res (v := v) (r := .v d) (by simp) rfl
        have o1 := im _ _ _ _ o0
        obtain ⟨l, vs, rfl, n1, l1, ch⟩ := R5.mutR hj rfl
        have n1' : H4 l = some (.dK ((kvs.map (·.1)).zip vs)) := n1
        have hl : vs.length = kvs.length := by simpa [kids] using l1
        refine .inr ⟨l, _, rfl, .inl ⟨_, ky, n1', rfl, by simp [hl]; omega, rfl⟩, ?_⟩
        rw [(putD_zip (d := d) (y := v) (k := ky) hl).1]
        refine n _ _ _ k5 (ch (.dK (((putD kvs ky d).map (·.1)).zip (putVs kvs ky v vs))) (.dK (putD kvs ky d)) (putVs kvs ky v vs) (show upd H4 l _ l = _ from upd_same) rfl (by show _ = ((putD kvs ky d).map (·.2)).length; rw [List.length_map]; exact (putD_zip hl).2) (fun F s => ?_) (fun o u q => by rw [n1'] at q; cases q))
        have s1 : Sep (OwnE X.K (upd H4 l (.dK (((putD kvs ky d).map (·.1)).zip (putVs kvs ky v vs))))) (vs.zip (kvs.map (·.2))) F := by
          obtain ⟨F1, F2, a1, _, _, a2, _⟩ := s.split
          exact a1.monoF a2
        have o2 : OwnE X.K (upd H4 l (.dK (((putD kvs ky d).map (·.1)).zip (putVs kvs ky v vs)))) v d fun _ => False := by
          have g := s.getm (v := v) (d := d) (List.mem_append_right _ (by simp [tc]))
          obtain ⟨F1, g, _⟩ := g
          exact im _ _ _ _ g
        exact putD_sep o2 hl s1
      | dT hj hri hsome im hz k5 =>
        rename_i kvs ks
        obtain ⟨Fy, oy⟩ := R4.res (v := y) (r := ri) (by simp) hri
        obtain ⟨b, rfl, hsq⟩ := own_keysD oy
        obtain ⟨l, vs, rfl, n1, l1, ch⟩ := R5.mutR hj rfl
        have n1' : H4 l = some (.dT ((kvs.map (·.1)).zip vs)) := n1
        have hl : vs.length = kvs.length := by simpa [kids] using l1
        refine .inr ⟨l, _, rfl, .inr ⟨_, ks, b, n1', rfl, .inr ⟨hsq, by rw [valD_isSome hl]; exact hsome⟩, by simp [hl]; omega, rfl⟩, ?_⟩
        rw [(putD_zip (d := d) (y := v) (k := ks) hl).1]
        refine n _ _ _ k5 (ch (.dT (((putD kvs ks d).map (·.1)).zip (putVs kvs ks v vs))) (.dT (putD kvs ks d)) (putVs kvs ks v vs) (show upd H4 l _ l = _ from upd_same) rfl (by show _ = ((putD kvs ks d).map (·.2)).length; rw [List.length_map]; exact (putD_zip hl).2) (fun F s => ?_) (fun o u q => by rw [n1'] at q; cases q))
        have s1 : Sep (OwnE X.K (upd H4 l (.dT (((putD kvs ks d).map (·.1)).zip (putVs kvs ks v vs))))) (vs.zip (kvs.map (·.2))) F := by
          obtain ⟨F1, F2, a1, _, _, a2, _⟩ := s.split
          exact a1.monoF a2
        have o2 : OwnE X.K (upd H4 l (.dT (((putD kvs ks d).map (·.1)).zip (putVs kvs ks v vs)))) v d fun _ => False := by
          have g := s.getm (v := v) (d := d) (List.mem_append_right _ (by simp [tc]))
          obtain ⟨F1, g, _⟩ := g
          exact im _ _ _ _ g
        exact putD_sep o2 hl s1⟩⟩⟩
/-- d[(a, ..)] = e, a new key or an old one -/
inductive PutT (δ : Env) : Rs → List Rs → D → (Env → Prop) → Prop
  | mk {ro : Rs} {rs : List Rs} {kvs : List (List L2.Key × D)} {ks : List L2.Key} {d : D} {P : Env → Prop} : rsv δ ro = some (.dT kvs) → KeysR rs ks → rs.length ≤ sizeLine → Imm d → kvs.length < sizeLine → P (setR δ ro (.dT (putD kvs ks d))) → PutT δ ro rs d P
/-- xs.append(e), wherever xs stands -/
inductive AppQ (δ : Env) : Rs → D → (Env → Prop) → Prop
  | mk {ro : Rs} {ds : List D} {d : D} {P : Env → Prop} : rsv δ ro = some (.lst ds) → ds.length < sizeLine → P (setR δ ro (.lst (ds ++ [d]))) → AppQ δ ro d P
theorem de_appendQ {ap : Pos} (h : DE X f δ o fun ro δ1 => IsLst δ1 ro ∧ DA X f δ1 [e] fun rs δ2 => ∃ r d δ3, rs = [r] ∧ Take δ2 r d δ3 ∧ AppQ δ3 ro d fun δ4 => Ψ (.v .non) δ4)
    (hbase : attributeBase o "append" X.env (eval o X.env) = eval o X.env := by rfl) (hline : (ap.endLine == pos.line) = true := by rfl) (hs : starEach [e] X.env = (false, eval e X.env) :: starEach [] X.env := by rfl)
    (hfew : ((backTo pos (starEach [e] X.env)).all (fun x => !x.1) && (backToKw pos (keywordEach [] X.env)).all (fun x => x.1.isSome) && decide (([e] : List Expr).length + ([] : List Keyword).length + (if ([] : List Keyword).isEmpty then 0 else 1) < 30)) = true := by rfl) :
    DE X f δ (.Call (.Attribute o "append" ap) [e] [] pos) Ψ :=
  DE.of (pe_bm PySem.F.plainAttrs_list PySem.F.slot_list_append PySem.F.type_list_append mt_append h.h (pa_u (f := f)) hbase hfew hline hs) fun σ H Q ⟨T, R, q⟩ => ⟨T, R, fun ro δ1 v H1 ⟨il, k1⟩ R1 => ⟨tyV_lst R1 il, δ1, _, k1, _, R1, fun rs δ2 vs H2 ⟨r, d, δ3, er, tk, k3⟩ hl R2 => by
    obtain ⟨u, eu, ez⟩ := one_of (T := (v, ro) :: T) er hl
    subst eu
    rw [ez] at R2
    have R3 := tk.rp R2
    cases k3 with
    | mk hj hz k =>
      rename_i ds
      have R4 : Rp X.K f H2 σ δ3 ((v, ro) :: ([(u, Rs.v d)] ++ T)) := R3.perm (List.Perm.swap _ _ _)
      obtain ⟨p, ws, rfl, n1, l1, ch⟩ := R4.mutR hj rfl
      have n1' : H2 p = some (.lst ws) := n1
      have l1' : ws.length = ds.length := l1
      refine ⟨p, ws, u, rfl, rfl, n1', by omega, q _ _ _ _ k (Rp.pushL (ch (.lst (ws ++ [u])) (.lst (ds ++ [d])) (ws ++ [u]) (show upd H2 p _ p = _ from upd_same) rfl (by simp [kids, l1']) (fun F s => ?_) fun o u q => by rw [n1'] at q; cases q) rfl)⟩
      show Sep _ ((ws ++ [u]).zip (ds ++ [d])) F
      rw [zip_app l1']
      exact s⟩⟩
/-! ### sum, max, min, sorted of ints -/
inductive IntsS (δ : Env) : List Rs → (List Int → Prop) → Prop
  | mk {r : Rs} {ns : List Int} {P : List Int → Prop} : rsv δ r = some (.lst (ns.map .int)) → P ns → IntsS δ [r] P
theorem ints_own {K : PySem.W.Frag} {H : Hp} {F : Fp} {ns : List Int} {vs : List V} (hl : vs.length = (ns.map D.int).length) (s : Sep (OwnE K H) (vs.zip (ns.map D.int)) F) : vs = ns.map V.int := leafs_own (leafs_ints ns) hl s
theorem IntsS.at {K : PySem.W.Frag} {f : Fm} {δ : Env} {H : Hp} {σ : L2.St} {T : List (V × Rs)} {v : V} {r : Rs} {ns : List Int} (R : Rp K f H σ δ ((v, r) :: T)) (h : rsv δ r = some (.lst (ns.map .int))) : ∃ a, v = .ref a ∧ SqL K H a (ns.map V.int) := by
  obtain ⟨F, o⟩ := R.res (v := v) (r := r) (by simp) h
  obtain ⟨p, vs, rfl, e1, l1, F1, s1⟩ := own_lst o
  have ev := ints_own l1 s1
  subst ev
  exact ⟨p, rfl, SqL.of e1⟩
theorem de_maxL {p : Pos} (B : Bd X N sc) (J : Jn X Pr w K mg base) (hg : Gls sc "max") (hm : mg "max" = none) (h : DA X f δ [e] fun rs δ1 => IntsS δ1 rs fun ns => 0 < ns.length ∧ ∀ m, m ∈ ns → (∀ y ∈ ns, y ≤ m) → Ψ (.v (.int m)) δ1) (he : starEach [e] X.env = (false, eval e X.env) :: starEach [] X.env := by rfl) : DE X f δ (.Call (.Name "max" p) [e] [] pos) Ψ :=
  de_bltn (cr_max B.calm) B J hg hm (by rfl) (he := he) (h := h.mono fun rs δ1 k => by
    cases k with
    | mk h1 k =>
      refine callOk1 fun H σ T v Q R q => ?_
      obtain ⟨a, rfl, hs⟩ := IntsS.at R h1
      exact ⟨a, _, rfl, hs, k.1, fun m h1 h2 => q _ _ _ (k.2 m h1 h2) (R.tail.pushL rfl)⟩)
inductive TwoI : List Rs → (Int → Int → Prop) → Prop
  | mk {i j : Int} {P : Int → Int → Prop} : P i j → TwoI [.v (.int i), .v (.int j)] P
/-- the ints sorted: the one list that is -/
def srtI (ns : List Int) : List Int := ns.mergeSort (fun a b => decide (a ≤ b))
theorem srtI_perm (ns : List Int) : (srtI ns).Perm ns := List.mergeSort_perm _ _
theorem srtI_sorted (ns : List Int) : (srtI ns).Pairwise (· ≤ ·) := by
  have h := List.pairwise_mergeSort (le := fun a b : Int => decide (a ≤ b)) (fun a b c h1 h2 => by simp at *; omega) (fun a b => by simp; omega) ns
  exact h.imp fun h => by simpa using h
theorem srtI_uniq {ns ms : List Int} (h1 : ms.Perm ns) (h2 : ms.Pairwise (· ≤ ·)) : ms = srtI ns :=
  List.Perm.eq_of_pairwise (le := (· ≤ ·)) (fun a b _ _ h1 h2 => Int.le_antisymm h1 h2) h2 (srtI_sorted ns) (h1.trans (srtI_perm ns).symm)
end
end Dl

namespace Dl
open PySem PySem.Spec PyProof.Rows L2
/-! ### ordered data: ints, texts, tuples of such -/
inductive O where
  | i (n : Int) | s (x : Str) | t (xs : List O)
mutual
def oD : O → D
  | .i n => .int n
  | .s x => .str x
  | .t xs => .tup (oDs xs)
def oDs : List O → List D
  | [] => []
  | x :: xs => oD x :: oDs xs
end
theorem oDs_map : ∀ xs : List O, oDs xs = xs.map oD
  | [] => rfl
  | x :: xs => by unfold oDs; rw [oDs_map xs]; rfl
def cmpS (a b : Str) : Ordering := if a = b then .eq else if a.cps.toList < b.cps.toList then .lt else .gt
def cmpI (a b : Int) : Ordering := if a = b then .eq else if a < b then .lt else .gt
mutual
def cmpO : O → O → Ordering
  | .i a, .i b => cmpI a b
  | .i _, .s _ => .lt
  | .i _, .t _ => .lt
  | .s _, .i _ => .gt
  | .s a, .s b => cmpS a b
  | .s _, .t _ => .lt
  | .t _, .i _ => .gt
  | .t _, .s _ => .gt
  | .t xs, .t ys => cmpOs xs ys
def cmpOs : List O → List O → Ordering
  | [], [] => .eq
  | [], _ :: _ => .lt
  | _ :: _, [] => .gt
  | x :: xs, y :: ys => (cmpO x y).then (cmpOs xs ys)
end
theorem str_ext {a b : Str} (h : a.cps.toList = b.cps.toList) : a = b := by
  cases a; cases b; congr; exact Array.toList_inj.mp h
theorem cmpS_eq {a b : Str} : cmpS a b = .eq ↔ a = b := by
  unfold cmpS
  by_cases h : a = b
  · simp [h]
  · simp only [h, if_false]
    split <;> simp
theorem cmpS_lt {a b : Str} : cmpS a b = .lt ↔ a.cps.toList < b.cps.toList := by
  unfold cmpS
  by_cases h : a = b
  · subst h; simp [List.lt_irrefl]
  · simp only [h, if_false]
    split <;> simp_all
theorem cmpI_eq {a b : Int} : cmpI a b = .eq ↔ a = b := by
  unfold cmpI
  by_cases h : a = b
  · simp [h]
  · simp only [h, if_false]
    split <;> simp
theorem cmpI_lt {a b : Int} : cmpI a b = .lt ↔ a < b := by
  unfold cmpI
  by_cases h : a = b
  · subst h; simp
  · simp only [h, if_false]
    split <;> simp_all
theorem cmpS_swap {a b : Str} : cmpS b a = (cmpS a b).swap := by
  unfold cmpS
  by_cases h : a = b
  · subst h; simp
  · have h' : ¬ b = a := fun e => h e.symm
    simp only [h, h', if_false]
    by_cases h1 : a.cps.toList < b.cps.toList
    · have h2 : ¬ b.cps.toList < a.cps.toList := List.lt_asymm h1
      simp [h1, h2]
    · have h2 : b.cps.toList < a.cps.toList := by
        rcases Classical.em (b.cps.toList < a.cps.toList) with q | q
        · exact q
        · exact absurd (str_ext (List.le_antisymm q h1)) h
      simp [h1, h2]
theorem cmpI_swap {a b : Int} : cmpI b a = (cmpI a b).swap := by
  unfold cmpI
  by_cases h : a = b
  · subst h; simp
  · have h' : ¬ b = a := fun e => h e.symm
    simp only [h, h', if_false]
    by_cases h1 : a < b
    · have h2 : ¬ b < a := by omega
      simp [h1, h2]
    · have h2 : b < a := by omega
      simp [h1, h2]
mutual
theorem cmpO_eq : ∀ {a b : O}, cmpO a b = .eq → a = b
  | .i a, .i b, h => by unfold cmpO at h; rw [cmpI_eq.mp h]
  | .s a, .s b, h => by unfold cmpO at h; rw [cmpS_eq.mp h]
  | .t xs, .t ys, h => by unfold cmpO at h; rw [cmpOs_eq h]
  | .i _, .s _, h => by unfold cmpO at h; cases h
  | .i _, .t _, h => by unfold cmpO at h; cases h
  | .s _, .i _, h => by unfold cmpO at h; cases h
  | .s _, .t _, h => by unfold cmpO at h; cases h
  | .t _, .i _, h => by unfold cmpO at h; cases h
  | .t _, .s _, h => by unfold cmpO at h; cases h
theorem cmpOs_eq : ∀ {a b : List O}, cmpOs a b = .eq → a = b
  | [], [], _ => rfl
  | [], _ :: _, h => by unfold cmpOs at h; cases h
  | _ :: _, [], h => by unfold cmpOs at h; cases h
  | x :: xs, y :: ys, h => by
    unfold cmpOs at h
    cases e : cmpO x y with
    | lt => rw [e] at h; cases h
    | gt => rw [e] at h; cases h
    | eq =>
      rw [e] at h
      rw [cmpO_eq e, cmpOs_eq (a := xs) (b := ys) h]
end
mutual
theorem cmpO_swap : ∀ {a b : O}, cmpO b a = (cmpO a b).swap
  | .i a, .i b => by unfold cmpO; exact cmpI_swap
  | .s a, .s b => by unfold cmpO; exact cmpS_swap
  | .t xs, .t ys => by unfold cmpO; exact cmpOs_swap
  | .i _, .s _ => by unfold cmpO; rfl
  | .i _, .t _ => by unfold cmpO; rfl
  | .s _, .i _ => by unfold cmpO; rfl
  | .s _, .t _ => by unfold cmpO; rfl
  | .t _, .i _ => by unfold cmpO; rfl
  | .t _, .s _ => by unfold cmpO; rfl
theorem cmpOs_swap : ∀ {a b : List O}, cmpOs b a = (cmpOs a b).swap
  | [], [] => rfl
  | [], _ :: _ => by unfold cmpOs; rfl
  | _ :: _, [] => by unfold cmpOs; rfl
  | x :: xs, y :: ys => by
    unfold cmpOs
    rw [cmpO_swap (a := x) (b := y), cmpOs_swap (a := xs) (b := ys)]
    cases cmpO x y <;> rfl
end
mutual
theorem cmpO_refl : ∀ a : O, cmpO a a = .eq
  | .i a => by unfold cmpO; exact cmpI_eq.mpr rfl
  | .s a => by unfold cmpO; exact cmpS_eq.mpr rfl
  | .t xs => by unfold cmpO; exact cmpOs_refl xs
theorem cmpOs_refl : ∀ a : List O, cmpOs a a = .eq
  | [] => rfl
  | x :: xs => by unfold cmpOs; rw [cmpO_refl x, cmpOs_refl xs]; rfl
end
mutual
theorem cmpO_tr : ∀ {a b c : O}, cmpO a b = .lt → cmpO b c = .lt → cmpO a c = .lt
  | .i a, .i b, .i c, h, g => by
    unfold cmpO at h g ⊢
    have := cmpI_lt.mp h
    have := cmpI_lt.mp g
    exact cmpI_lt.mpr (by omega)
  | .s a, .s b, .s c, h, g => by
    unfold cmpO at h g ⊢
    exact cmpS_lt.mpr (List.lt_trans (cmpS_lt.mp h) (cmpS_lt.mp g))
  | .t a, .t b, .t c, h, g => by
    unfold cmpO at h g ⊢
    exact cmpOs_tr h g
  | .i _, .s _, .i _, _, g => by unfold cmpO at g; cases g
  | .i _, .t _, .i _, _, g => by unfold cmpO at g; cases g
  | .i _, _, .s _, _, _ => by unfold cmpO; rfl
  | .i _, _, .t _, _, _ => by unfold cmpO; rfl
  | .s _, .i _, _, h, _ => by unfold cmpO at h; cases h
  | .s _, .s _, .i _, _, g => by unfold cmpO at g; cases g
  | .s _, .t _, .i _, _, g => by unfold cmpO at g; cases g
  | .s _, .t _, .s _, _, g => by unfold cmpO at g; cases g
  | .s _, _, .t _, _, _ => by unfold cmpO; rfl
  | .t _, .i _, _, h, _ => by unfold cmpO at h; cases h
  | .t _, .s _, _, h, _ => by unfold cmpO at h; cases h
  | .t _, .t _, .i _, _, g => by unfold cmpO at g; cases g
  | .t _, .t _, .s _, _, g => by unfold cmpO at g; cases g
theorem cmpOs_tr : ∀ {a b c : List O}, cmpOs a b = .lt → cmpOs b c = .lt → cmpOs a c = .lt
  | [], [], _, h, _ => by unfold cmpOs at h; cases h
  | [], _ :: _, [], _, g => by unfold cmpOs at g; cases g
  | [], _, _ :: _, _, _ => by unfold cmpOs; rfl
  | _ :: _, [], _, h, _ => by unfold cmpOs at h; cases h
  | _ :: _, _ :: _, [], _, g => by unfold cmpOs at g; cases g
  | x :: xs, y :: ys, z :: zs, h, g => by
    unfold cmpOs at h g ⊢
    cases e1 : cmpO x y with
    | gt => rw [e1] at h; cases h
    | lt =>
      cases e2 : cmpO y z with
      | gt => rw [e2] at g; cases g
      | lt => rw [cmpO_tr e1 e2]; rfl
      | eq => rw [← cmpO_eq e2, e1]; rfl
    | eq =>
      rw [cmpO_eq e1]
      rw [e1] at h
      cases e2 : cmpO y z with
      | gt => rw [e2] at g; cases g
      | lt => rfl
      | eq =>
        rw [e2] at g
        exact cmpOs_tr (a := xs) (b := ys) (c := zs) h g
end
def ltO (a b : O) : Bool := cmpO a b == .lt
theorem ltO_iff {a b : O} : ltO a b = true ↔ cmpO a b = .lt := by unfold ltO; cases cmpO a b <;> decide
theorem ltO_no {a b : O} : ltO a b = false ↔ cmpO b a = .lt ∨ a = b := by
  unfold ltO
  constructor
  · intro h
    cases e : cmpO a b with
    | lt => rw [e] at h; cases h
    | eq => exact .inr (cmpO_eq e)
    | gt => left; rw [cmpO_swap, e]; rfl
  · rintro (h | rfl)
    · rw [cmpO_swap, h]; rfl
    · rw [cmpO_refl]; rfl
theorem swoO {α : Type} (k : α → O) : SrtO.Swo fun x y => ltO (k x) (k y) := by
  refine ⟨fun x y h => ?_, fun x y z h1 h2 => ?_⟩
  · exact ltO_no.mpr (.inl (ltO_iff.mp h))
  · rcases ltO_no.mp h1 with a | a
    · rcases ltO_no.mp h2 with b | b
      · exact ltO_no.mpr (.inl (cmpO_tr a b))
      · rw [b]; exact h1
    · rw [← a]; exact h2
/-- the sorted one -/
def leO (a b : O) : Bool := !ltO b a
def srtO (os : List O) : List O := os.mergeSort leO
theorem srtO_perm (os : List O) : (srtO os).Perm os := List.mergeSort_perm _ _
theorem leO_tr {a b c : O} (h1 : leO a b = true) (h2 : leO b c = true) : leO a c = true := by
  have h1' : ltO b a = false := by simpa [leO] using h1
  have h2' : ltO c b = false := by simpa [leO] using h2
  have := (swoO (fun x : O => x)).tr a b c h1' h2'
  simp [leO, this]
theorem leO_tot (a b : O) : (leO a b || leO b a) = true := by
  unfold leO
  cases h : ltO b a with
  | false => rfl
  | true =>
    have := (swoO (fun x : O => x)).asym b a h
    rw [this]; rfl
theorem srtO_sorted (os : List O) : (srtO os).Pairwise fun a b => leO a b = true := List.pairwise_mergeSort (le := leO) (fun a b c => leO_tr) leO_tot os
theorem leO_anti {a b : O} (h1 : leO a b = true) (h2 : leO b a = true) : a = b := by
  have h1' : ltO b a = false := by simpa [leO] using h1
  have h2' : ltO a b = false := by simpa [leO] using h2
  rcases ltO_no.mp h1' with q | q
  · rw [ltO_iff.mpr q] at h2'; cases h2'
  · exact q.symm
theorem srtO_uniq {os ps : List O} (h1 : ps.Perm os) (h2 : ps.Pairwise fun a b => leO a b = true) : ps = srtO os :=
  List.Perm.eq_of_pairwise (fun a b _ _ h1 h2 => leO_anti h1 h2) h2 (srtO_sorted os) (h1.trans (srtO_perm os).symm)
/-! ### the values of such -/
mutual
def VO (h : Heap) : O → Value → Prop
  | .i n, v => ∃ t, v = .int n t
  | .s x, v => ∃ t, v = .str x t
  | .t xs, v => ∃ (a : Addr) (its : List Value), v = .ref a ∧ h.IsTuple a its.toArray ∧ VOs h xs its
def VOs (h : Heap) : List O → List Value → Prop
  | [], [] => True
  | x :: xs, v :: vs => VO h x v ∧ VOs h xs vs
  | _, _ => False
end
mutual
theorem VO_uniq {h : Heap} : ∀ {a b : O} {v : Value}, VO h a v → VO h b v → a = b
  | .i a, .i b, v, p, q => by
    unfold VO at p q
    obtain ⟨t, rfl⟩ := p
    obtain ⟨u, e⟩ := q
    cases e; rfl
  | .s a, .s b, v, p, q => by
    unfold VO at p q
    obtain ⟨t, rfl⟩ := p
    obtain ⟨u, e⟩ := q
    cases e; rfl
  | .t xs, .t ys, v, p, q => by
    unfold VO at p q
    obtain ⟨a, its, rfl, h1, h2⟩ := p
    obtain ⟨b, its', e, h3, h4⟩ := q
    cases e
    obtain ⟨o, e1, _, n, d1⟩ := h1
    obtain ⟨o', e2, _, n', d2⟩ := h3
    rw [e1] at e2
    cases e2
    rw [d1] at d2
    have : its = its' := by
      injection d2 with d2 _
      simpa using d2
    subst this
    rw [VOs_uniq h2 h4]
  | .i _, .s _, v, p, q => by unfold VO at p q; obtain ⟨t, rfl⟩ := p; obtain ⟨u, e⟩ := q; cases e
  | .i _, .t _, v, p, q => by unfold VO at p q; obtain ⟨t, rfl⟩ := p; obtain ⟨u, _, e, _⟩ := q; cases e
  | .s _, .i _, v, p, q => by unfold VO at p q; obtain ⟨t, rfl⟩ := p; obtain ⟨u, e⟩ := q; cases e
  | .s _, .t _, v, p, q => by unfold VO at p q; obtain ⟨t, rfl⟩ := p; obtain ⟨u, _, e, _⟩ := q; cases e
  | .t _, .i _, v, p, q => by unfold VO at p q; obtain ⟨t, _, rfl, _⟩ := p; obtain ⟨u, e⟩ := q; cases e
  | .t _, .s _, v, p, q => by unfold VO at p q; obtain ⟨t, _, rfl, _⟩ := p; obtain ⟨u, e⟩ := q; cases e
theorem VOs_uniq {h : Heap} : ∀ {a b : List O} {v : List Value}, VOs h a v → VOs h b v → a = b
  | [], [], _, _, _ => rfl
  | x :: xs, y :: ys, v :: vs, p, q => by
    unfold VOs at p q
    rw [VO_uniq p.1 q.1, VOs_uniq p.2 q.2]
  | [], _ :: _, [], _, q => by unfold VOs at q; exact q.elim
  | [], _ :: _, _ :: _, p, _ => by unfold VOs at p; exact p.elim
  | _ :: _, [], [], p, _ => by unfold VOs at p; exact p.elim
  | _ :: _, [], _ :: _, _, q => by unfold VOs at q; exact q.elim
  | _ :: _, _ :: _, [], p, _ => by unfold VOs at p; exact p.elim
end
mutual
theorem VO_keeps {h h' : Heap} (k : ∀ b o, h.get? b = some o → o.cls = .type "tuple" → h'.get? b = some o) : ∀ {a : O} {v : Value}, VO h a v → VO h' a v
  | .i a, v, p => p
  | .s a, v, p => p
  | .t xs, v, p => by
    unfold VO at p ⊢
    obtain ⟨a, its, e, ⟨o, e1, e2, e3⟩, h2⟩ := p
    exact ⟨a, its, e, ⟨o, k a o e1 e2, e2, e3⟩, VOs_keeps k h2⟩
theorem VOs_keeps {h h' : Heap} (k : ∀ b o, h.get? b = some o → o.cls = .type "tuple" → h'.get? b = some o) : ∀ {a : List O} {v : List Value}, VOs h a v → VOs h' a v
  | [], [], p => p
  | x :: xs, v :: vs, p => by
    unfold VOs at p ⊢
    exact ⟨VO_keeps k p.1, VOs_keeps k p.2⟩
  | [], _ :: _, p => by unfold VOs at p; exact p.elim
  | _ :: _, [], p => by unfold VOs at p; exact p.elim
end
theorem VOs_len {h : Heap} : ∀ {a : List O} {v : List Value}, VOs h a v → a.length = v.length
  | [], [], _ => rfl
  | x :: xs, v :: vs, p => by unfold VOs at p; simp [VOs_len p.2]
  | [], _ :: _, p => by unfold VOs at p; exact p.elim
  | _ :: _, [], p => by unfold VOs at p; exact p.elim
end Dl

namespace Dl
open PySem PySem.Spec PyProof.Rows L2 PySem.SeqAt
mutual
def depO : O → Nat
  | .t xs => depOs xs + 1
  | _ => 0
def depOs : List O → Nat
  | [] => 0
  | x :: xs => max (depO x) (depOs xs)
end
mutual
/-- of one kind, place by place -/
def okO : O → O → Bool
  | .i _, .i _ => true
  | .s _, .s _ => true
  | .t xs, .t ys => okOs xs ys
  | _, _ => false
def okOs : List O → List O → Bool
  | x :: xs, y :: ys => okO x y && okOs xs ys
  | _, _ => true
end
def eqJ (xs ys : List O) (j : Nat) : Bool := match xs[j]?, ys[j]? with
  | some x, some y => cmpO x y == .eq
  | _, _ => true
def ltJ (xs ys : List O) (j : Nat) : Bool := match xs[j]?, ys[j]? with
  | some x, some y => cmpO x y == .lt
  | _, _ => true
theorem all_eq : ∀ (xs ys : List O) (m : Nat) (X Y : List O), xs = X.drop m → ys = Y.drop m → m ≤ X.length → m ≤ Y.length → ((List.range' m (min xs.length ys.length)).all (eqJ X Y) && (xs.length == ys.length)) = (cmpOs xs ys == .eq)
  | [], [], m, X, Y, _, _, _, _ => by simp [cmpOs]
  | [], y :: ys, m, X, Y, _, _, _, _ => by simp [cmpOs]
  | x :: xs, [], m, X, Y, _, _, _, _ => by simp [cmpOs]
  | x :: xs, y :: ys, m, X, Y, hx, hy, h1, h2 => by
    have gx : X[m]? = some x := by rw [← List.head?_drop, ← hx]; rfl
    have gy : Y[m]? = some y := by rw [← List.head?_drop, ← hy]; rfl
    have dx : xs = X.drop (m + 1) := by rw [← List.tail_drop, ← hx]; first | done | rfl
    have dy : ys = Y.drop (m + 1) := by rw [← List.tail_drop, ← hy]; first | done | rfl
    have l1 := (List.getElem?_eq_some_iff.mp gx).1
    have l2 := (List.getElem?_eq_some_iff.mp gy).1
    have ih := all_eq xs ys (m + 1) X Y dx dy l1 l2
    have e : min (x :: xs).length (y :: ys).length = min xs.length ys.length + 1 := by simp <;> omega
    rw [e, List.range'_succ, List.all_cons]
    unfold cmpOs
    have ej : eqJ X Y m = (cmpO x y == .eq) := by unfold eqJ; rw [gx, gy]
    rw [ej]
    have el : ((x :: xs).length == (y :: ys).length) = (xs.length == ys.length) := by simp
    rw [el]
    cases q : cmpO x y with
    | eq => simp only [beq_self_eq_true, Bool.true_and]; exact ih
    | lt => rfl
    | gt => rfl
theorem lex_eq : ∀ (xs ys : List O) (m : Nat) (X Y : List O), xs = X.drop m → ys = Y.drop m → m ≤ X.length → m ≤ Y.length → Ob.lexAt (eqJ X Y) (ltJ X Y) (decide (xs.length < ys.length)) m (min xs.length ys.length) = (cmpOs xs ys == .lt)
  | [], [], m, X, Y, _, _, _, _ => by simp [cmpOs, Ob.lexAt]
  | [], y :: ys, m, X, Y, _, _, _, _ => by simp [cmpOs, Ob.lexAt]
  | x :: xs, [], m, X, Y, _, _, _, _ => by simp [cmpOs, Ob.lexAt]
  | x :: xs, y :: ys, m, X, Y, hx, hy, h1, h2 => by
    have gx : X[m]? = some x := by rw [← List.head?_drop, ← hx]; rfl
    have gy : Y[m]? = some y := by rw [← List.head?_drop, ← hy]; rfl
    have dx : xs = X.drop (m + 1) := by rw [← List.tail_drop, ← hx]; first | done | rfl
    have dy : ys = Y.drop (m + 1) := by rw [← List.tail_drop, ← hy]; first | done | rfl
    have l1 := (List.getElem?_eq_some_iff.mp gx).1
    have l2 := (List.getElem?_eq_some_iff.mp gy).1
    have ih := lex_eq xs ys (m + 1) X Y dx dy l1 l2
    have e : min (x :: xs).length (y :: ys).length = min xs.length ys.length + 1 := by simp <;> omega
    rw [e, Ob.lexAt_succ]
    unfold cmpOs
    have ej : eqJ X Y m = (cmpO x y == .eq) := by unfold eqJ; rw [gx, gy]
    have lj : ltJ X Y m = (cmpO x y == .lt) := by unfold ltJ; rw [gx, gy]
    have el : decide ((x :: xs).length < (y :: ys).length) = decide (xs.length < ys.length) := by simp
    rw [ej, lj, el]
    cases q : cmpO x y with
    | eq => simp only [beq_self_eq_true, if_true]; exact ih
    | lt => rfl
    | gt => rfl
section
variable {s : Shared}
theorem cmpI_beq {a b : Int} : (a == b) = (cmpI a b == .eq) := by
  unfold cmpI
  by_cases h : a = b
  · simp [h]
  · simp only [h, if_false]
    split <;> simp [h]
theorem cmpS_beq {a b : Str} : (a == b) = (cmpS a b == .eq) := by
  unfold cmpS
  by_cases h : a = b
  · simp [h]
  · simp only [h, if_false]
    split <;> simp [h]
mutual
theorem eqO_at : ∀ {a b : O} {v u : Value} {A : Around}, VO s.heap a v → VO s.heap b u → okO a b = true → A.units + depO a < cLine → EqAt A s v u (cmpO a b == .eq)
  | .i a, .i b, v, u, A, p, q, _, _ => by
    unfold VO at p q
    obtain ⟨t, rfl⟩ := p
    obtain ⟨t', rfl⟩ := q
    unfold cmpO
    rw [← cmpI_beq]
    exact EqAt.int_int a t b t'
  | .s a, .s b, v, u, A, p, q, _, _ => by
    unfold VO at p q
    obtain ⟨t, rfl⟩ := p
    obtain ⟨t', rfl⟩ := q
    unfold cmpO
    rw [← cmpS_beq]
    exact EqAt.str_str a t b t'
  | .t xs, .t ys, v, u, A, p, q, ok, hu => by
    have p0 := p
    have q0 := q
    unfold VO at p q
    obtain ⟨a, its, rfl, h1, h2⟩ := p
    obtain ⟨b, its', rfl, h3, h4⟩ := q
    by_cases e : a = b
    · subst e
      have := VO_uniq p0 q0
      cases this
      rw [cmpO_refl]
      exact EqAt.same _
    · refine EqAt.of_refs e ?_
      unfold depO at hu
      unfold okO at ok
      have l1 := VOs_len h2
      have l2 := VOs_len h4
      have R := RcAt.tuples (A := A) (s := s) (e := eqJ xs ys) h1 h3 (by omega) (fun j k1 k2 => by
        have k1' : j < its.length := by simpa using k1
        have k2' : j < its'.length := by simpa using k2
        have g := eqOs_at h2 h4 ok (A := A.in1) (show A.units + 1 + depOs xs < cLine by omega) j k1' k2'
        simpa using g)
      have e2 : ((List.range (min its.toArray.size its'.toArray.size)).all (eqJ xs ys) && its.toArray.size == its'.toArray.size) = (cmpO (.t xs) (.t ys) == .eq) := by
        have := all_eq xs ys 0 xs ys rfl rfl (Nat.zero_le _) (Nat.zero_le _)
        unfold cmpO
        rw [← this, List.size_toArray, List.size_toArray, ← l1, ← l2, List.range_eq_range']
      rw [← e2]
      exact R
  | .i _, .s _, _, _, _, _, _, ok, _ => by unfold okO at ok; cases ok
  | .i _, .t _, _, _, _, _, _, ok, _ => by unfold okO at ok; cases ok
  | .s _, .i _, _, _, _, _, _, ok, _ => by unfold okO at ok; cases ok
  | .s _, .t _, _, _, _, _, _, ok, _ => by unfold okO at ok; cases ok
  | .t _, .i _, _, _, _, _, _, ok, _ => by unfold okO at ok; cases ok
  | .t _, .s _, _, _, _, _, _, ok, _ => by unfold okO at ok; cases ok
theorem eqOs_at : ∀ {xs ys : List O} {vs us : List Value} {A : Around}, VOs s.heap xs vs → VOs s.heap ys us → okOs xs ys = true → A.units + depOs xs < cLine → ∀ (j : Nat) (h1 : j < vs.length) (h2 : j < us.length), EqAt A s vs[j] us[j] (eqJ xs ys j)
  | x :: xs, y :: ys, v :: vs, u :: us, A, p, q, ok, hu, 0, h1, h2 => by
    unfold VOs at p q
    unfold okOs at ok
    rw [Bool.and_eq_true] at ok
    unfold depOs at hu
    have g := eqO_at (A := A) p.1 q.1 ok.1 (Nat.lt_of_le_of_lt (Nat.add_le_add_left (Nat.le_max_left _ _) _) hu)
    exact g
  | x :: xs, y :: ys, v :: vs, u :: us, A, p, q, ok, hu, j + 1, h1, h2 => by
    unfold VOs at p q
    unfold okOs at ok
    rw [Bool.and_eq_true] at ok
    unfold depOs at hu
    have g := eqOs_at (A := A) p.2 q.2 ok.2 (Nat.lt_of_le_of_lt (Nat.add_le_add_left (Nat.le_max_right _ _) _) hu) j (by simpa using h1) (by simpa using h2)
    have e : eqJ (x :: xs) (y :: ys) (j + 1) = eqJ xs ys j := by unfold eqJ; simp
    rw [e]
    exact g
  | [], _, v :: vs, _, _, p, _, _, _, _, _, _ => by unfold VOs at p; exact p.elim
  | _, [], _, u :: us, _, _, q, _, _, _, _, _ => by unfold VOs at q; exact q.elim
  | _ :: _, _, [], _, _, _, _, _, _, _, h1, _ => by simp at h1
  | _, _, [], _, _, _, _, _, _, _, h1, _ => by simp at h1
  | _, _, _, [], _, _, _, _, _, _, _, h2 => by simp at h2
end
mutual
theorem ltO_at : ∀ {a b : O} {v u : Value} {A : Around}, VO s.heap a v → VO s.heap b u → okO a b = true → A.units + depO a < cLine → Ob.RcOp .Lt A s v u (cmpO a b == .lt)
  | .i a, .i b, v, u, A, p, q, _, _ => by
    unfold VO at p q
    obtain ⟨t, rfl⟩ := p
    obtain ⟨t', rfl⟩ := q
    have e : (cmpO (.i a) (.i b) == .lt) = decide (a < b) := by
      unfold cmpO
      by_cases h : a < b
      · rw [cmpI_lt.mpr h, decide_eq_true h]; rfl
      · rw [decide_eq_false h]
        cases q : cmpI a b with
        | lt => exact absurd (cmpI_lt.mp q) h
        | eq => rfl
        | gt => rfl
    rw [e]
    exact Ob.RcOp.lt_int a b t t'
  | .s a, .s b, v, u, A, p, q, _, _ => by
    unfold VO at p q
    obtain ⟨t, rfl⟩ := p
    obtain ⟨t', rfl⟩ := q
    have e : (cmpO (.s a) (.s b) == .lt) = decide (a.cps.toList < b.cps.toList) := by
      unfold cmpO
      by_cases h : a.cps.toList < b.cps.toList
      · rw [cmpS_lt.mpr h, decide_eq_true h]; rfl
      · rw [decide_eq_false h]
        cases q : cmpS a b with
        | lt => exact absurd (cmpS_lt.mp q) h
        | eq => rfl
        | gt => rfl
    rw [e]
    exact fun prog w E Q h => DT.rcLt_str A s a t b t' prog w E Q h
  | .t xs, .t ys, v, u, A, p, q, ok, hu => by
    unfold VO at p q
    obtain ⟨a, its, rfl, h1, h2⟩ := p
    obtain ⟨b, its', rfl, h3, h4⟩ := q
    unfold depO at hu
    unfold okO at ok
    have l1 := VOs_len h2
    have l2 := VOs_len h4
    have R := Ob.RcOp.tuples_lt (A := A) (s := s) (e := eqJ xs ys) (r := ltJ xs ys) h1 h3 (by omega) (fun j k1 k2 => by
      have k1' : j < its.length := by simpa using k1
      have k2' : j < its'.length := by simpa using k2
      have g := eqOs_at h2 h4 ok (A := A.in1) (show A.units + 1 + depOs xs < cLine by omega) j k1' k2'
      simpa using g) (fun j k1 k2 _ => by
      have k1' : j < its.length := by simpa using k1
      have k2' : j < its'.length := by simpa using k2
      have g := ltOs_at h2 h4 ok (A := A.in1) (show A.units + 1 + depOs xs < cLine by omega) j k1' k2'
      simpa using g)
    have e2 : Ob.lexAt (eqJ xs ys) (ltJ xs ys) (decide (its.toArray.size < its'.toArray.size)) 0 (min its.toArray.size its'.toArray.size) = (cmpO (.t xs) (.t ys) == .lt) := by
      have := lex_eq xs ys 0 xs ys rfl rfl (Nat.zero_le _) (Nat.zero_le _)
      unfold cmpO
      rw [← this, List.size_toArray, List.size_toArray, ← l1, ← l2]
    rw [← e2]
    exact R
  | .i _, .s _, _, _, _, _, _, ok, _ => by unfold okO at ok; cases ok
  | .i _, .t _, _, _, _, _, _, ok, _ => by unfold okO at ok; cases ok
  | .s _, .i _, _, _, _, _, _, ok, _ => by unfold okO at ok; cases ok
  | .s _, .t _, _, _, _, _, _, ok, _ => by unfold okO at ok; cases ok
  | .t _, .i _, _, _, _, _, _, ok, _ => by unfold okO at ok; cases ok
  | .t _, .s _, _, _, _, _, _, ok, _ => by unfold okO at ok; cases ok
theorem ltOs_at : ∀ {xs ys : List O} {vs us : List Value} {A : Around}, VOs s.heap xs vs → VOs s.heap ys us → okOs xs ys = true → A.units + depOs xs < cLine → ∀ (j : Nat) (h1 : j < vs.length) (h2 : j < us.length), Ob.RcOp .Lt A s vs[j] us[j] (ltJ xs ys j)
  | x :: xs, y :: ys, v :: vs, u :: us, A, p, q, ok, hu, 0, h1, h2 => by
    unfold VOs at p q
    unfold okOs at ok
    rw [Bool.and_eq_true] at ok
    unfold depOs at hu
    have g := ltO_at (A := A) p.1 q.1 ok.1 (Nat.lt_of_le_of_lt (Nat.add_le_add_left (Nat.le_max_left _ _) _) hu)
    exact g
  | x :: xs, y :: ys, v :: vs, u :: us, A, p, q, ok, hu, j + 1, h1, h2 => by
    unfold VOs at p q
    unfold okOs at ok
    rw [Bool.and_eq_true] at ok
    unfold depOs at hu
    have g := ltOs_at (A := A) p.2 q.2 ok.2 (Nat.lt_of_le_of_lt (Nat.add_le_add_left (Nat.le_max_right _ _) _) hu) j (by simpa using h1) (by simpa using h2)
    have e : ltJ (x :: xs) (y :: ys) (j + 1) = ltJ xs ys j := by unfold ltJ; simp
    rw [e]
    exact g
  | [], _, v :: vs, _, _, p, _, _, _, _, _, _ => by unfold VOs at p; exact p.elim
  | _, [], _, u :: us, _, _, q, _, _, _, _, _ => by unfold VOs at q; exact q.elim
  | _ :: _, _, [], _, _, _, _, _, _, _, h1, _ => by simp at h1
  | _, _, [], _, _, _, _, _, _, _, h1, _ => by simp at h1
  | _, _, _, [], _, _, _, _, _, _, _, h2 => by simp at h2
end
/-! ### the sort's own comparison -/
/-- what stands first: an int (b), a tuple (not b) -/
def fstO (b : Bool) : O → Bool
  | .t (.i _ :: _) => b
  | .t (.t _ :: _) => !b
  | _ => false
section
variable {prog : Program} {w : World} {A : Around}
theorem kat_items {b : Bool} {fin : Bool} {P : Bool → Prop} : ∀ {xs ys : List O} {vs us : List Value} (i : Nat), VOs s.heap xs vs → VOs s.heap ys us → okOs xs ys = true → A.units + depOs xs < cLine → (i = 0 → b = true → ∀ x y r r', xs = x :: r → ys = y :: r' → ∃ m n, x = .i m ∧ y = .i n) →
    (∀ r, cmpOs xs ys = r → fin = decide (xs.length < ys.length) → P (r == .lt)) → fin = decide (xs.length < ys.length) → PySem.W.KatLex prog w A b fin (fun r s' => s' = s ∧ P r) (vs.zip us) i s
  | [], ys, [], us, i, p, q, ok, hu, hf, hP, hfin => by
    refine PySem.W.kat_nil ⟨rfl, ?_⟩
    have := hP _ rfl hfin
    rw [hfin]
    cases ys with
    | nil => unfold cmpOs at this; exact this
    | cons y ys => unfold cmpOs at this; simpa using this
  | x :: xs, [], v :: vs, [], i, p, q, ok, hu, hf, hP, hfin => by
    refine PySem.W.kat_nil ⟨rfl, ?_⟩
    have := hP _ rfl hfin
    rw [hfin]
    unfold cmpOs at this
    simpa using this
  | x :: xs, y :: ys, v :: vs, u :: us, i, p, q, ok, hu, hf, hP, hfin => by
    unfold VOs at p q
    unfold okOs at ok
    rw [Bool.and_eq_true] at ok
    unfold depOs at hu
    have hu1 : A.units + depO x < cLine := Nat.lt_of_le_of_lt (Nat.add_le_add_left (Nat.le_max_left _ _) _) hu
    have hu2 : A.units + depOs xs < cLine := Nat.lt_of_le_of_lt (Nat.add_le_add_left (Nat.le_max_right _ _) _) hu
    show PySem.W.KatLex prog w A b fin _ ((v, u) :: vs.zip us) i s
    refine PySem.W.kat_cons (eqO_at (A := A) p.1 q.1 ok.1 hu1 prog w _ _ ?_)
    refine PySem.W.kat_go (fun e1 => ?_) (fun e1 => ?_)
    · have ex : cmpO x y = .eq := by simpa using e1
      refine PySem.W.kat_yes (kat_items (i + 1) p.2 q.2 ok.2 hu2 (fun h => by omega) (fun r hr hl => ?_) (by rw [hfin]; simp))
      refine hP r ?_ hfin
      unfold cmpOs
      rw [ex]
      exact hr
    · have ex : (cmpO x y).then (cmpOs xs ys) = cmpO x y := by
        cases e : cmpO x y with
        | eq => rw [e] at e1; cases e1
        | lt => rfl
        | gt => rfl
      have hPx : P (cmpO x y == .lt) := hP _ (by unfold cmpOs; exact ex) hfin
      refine PySem.W.kat_no ?_
      by_cases hb : (b && i == 0) = true
      · rw [Bool.and_eq_true] at hb
        obtain ⟨m, n, rfl, rfl⟩ := hf (by simpa using hb.2) hb.1 x y xs ys rfl rfl
        have p1 := p.1
        have q1 := q.1
        unfold VO at p1 q1
        obtain ⟨t, rfl⟩ := p1
        obtain ⟨t', rfl⟩ := q1
        have e : (cmpO (.i m) (.i n) == .lt) = decide (m < n) := by
          unfold cmpO
          by_cases h : m < n
          · rw [cmpI_lt.mpr h, decide_eq_true h]; rfl
          · rw [decide_eq_false h]
            cases q : cmpI m n with
            | lt => exact absurd (cmpI_lt.mp q) h
            | eq => rfl
            | gt => rfl
        rw [e] at hPx
        exact TS.oneLt_ints _ ⟨rfl, hPx⟩
      · have hb' : (b && i == 0) = false := by simpa using hb
        rw [hb']
        refine PySem.W.kat_one _ _ ?_
        exact ltO_at (A := A) p.1 q.1 ok.1 hu1 prog w _ _ (show s = s ∧ P _ from ⟨rfl, hPx⟩)
  | [], _, _ :: _, _, _, p, _, _, _, _, _, _ => by unfold VOs at p; exact p.elim
  | _ :: _, _, [], _, _, p, _, _, _, _, _, _ => by unfold VOs at p; exact p.elim
  | _ :: _, [], _ :: _, _ :: _, _, _, q, _, _, _, _, _ => by unfold VOs at q; exact q.elim
  | _ :: _, _ :: _, _ :: _, [], _, _, q, _, _, _, _, _ => by unfold VOs at q; exact q.elim
end
end
end Dl

namespace Dl
open PySem PySem.Spec PyProof.Rows L2 PySem.SeqAt
/-- what a value says, where it says one -/
noncomputable def decO (h : Heap) (v : Value) : O := by
  classical
  exact if q : ∃ o, VO h o v then q.choose else .i 0
theorem decO_eq {h : Heap} {v : Value} {o : O} (p : VO h o v) : decO h v = o := by
  have q : ∃ o, VO h o v := ⟨o, p⟩
  unfold decO
  rw [dif_pos q]
  exact VO_uniq q.choose_spec p
/-- items that may be sorted -/
structure Srtb (b : Bool) (n : Nat) (os : List O) : Prop where
  fst : ∀ o ∈ os, fstO b o = true
  ok : ∀ o ∈ os, ∀ p ∈ os, okO o p = true
  dep : ∀ o ∈ os, depO o ≤ n
theorem Srtb.perm {b : Bool} {n : Nat} {os ps : List O} (h : Srtb b n os) (p : ∀ o ∈ ps, o ∈ os) : Srtb b n ps := ⟨fun o m => h.fst o (p o m), fun o m q k => h.ok o (p o m) q (p q k), fun o m => h.dep o (p o m)⟩
theorem VOs_mem {h : Heap} : ∀ {os : List O} {vs : List Value}, VOs h os vs → ∀ v ∈ vs, ∃ o ∈ os, VO h o v
  | [], [], _, v, m => nomatch m
  | o :: os, u :: vs, p, v, m => by
    unfold VOs at p
    rcases List.mem_cons.mp m with rfl | m
    · exact ⟨o, List.mem_cons_self, p.1⟩
    · obtain ⟨o', m', q⟩ := VOs_mem p.2 v m
      exact ⟨o', List.mem_cons_of_mem _ m', q⟩
  | [], _ :: _, p, _, _ => by unfold VOs at p; exact p.elim
  | _ :: _, [], p, _, _ => by unfold VOs at p; exact p.elim
section
variable {prog : Program} {w : World} {A : Around} {s : Shared}
theorem kat_tups {b : Bool} {h : Heap} : ∀ {vs : List Value}, (∀ v ∈ vs, ∃ o, VO h o v ∧ fstO b o = true) → ∃ fs, PySem.W.KatTups h vs fs ∧ fs.length = vs.length ∧ ∀ f ∈ fs, if b = true then ∃ n t, f = .int n t else ∃ q o, f = .ref q ∧ h.get? q = some o ∧ o.cls = .type "tuple"
  | [], _ => ⟨[], PySem.W.KatTups.nil, rfl, fun _ m => nomatch m⟩
  | v :: vs, hv => by
    obtain ⟨fs, h1, h2, h3⟩ := kat_tups (vs := vs) fun u m => hv u (List.mem_cons_of_mem _ m)
    obtain ⟨o, p, hf⟩ := hv v List.mem_cons_self
    cases o with
    | i n => unfold fstO at hf; cases hf
    | s x => unfold fstO at hf; cases hf
    | t xs =>
      unfold VO at p
      obtain ⟨a, its, rfl, ⟨ob, e1, e2, n, e3⟩, hs⟩ := p
      cases xs with
      | nil => unfold fstO at hf; cases hf
      | cons x xs =>
        cases its with
        | nil => unfold VOs at hs; exact hs.elim
        | cons f its =>
          unfold VOs at hs
          refine ⟨f :: fs, PySem.W.KatTups.cons e1 e2 e3 (by simp) h1, by simp [h2], fun g m => ?_⟩
          rcases List.mem_cons.mp m with rfl | m
          · have hx := hs.1
            cases x with
            | i n =>
              unfold fstO at hf
              rw [if_pos hf]
              unfold VO at hx
              obtain ⟨t, e⟩ := hx
              exact ⟨n, t, e⟩
            | s x => unfold fstO at hf; cases hf
            | t ys =>
              unfold fstO at hf
              have hb : b = false := by simpa using hf
              rw [hb, if_neg (by simp)]
              unfold VO at hx
              obtain ⟨q, _, e, ⟨oq, g1, g2, _⟩, _⟩ := hx
              exact ⟨q, oq, e, g1, g2⟩
          · exact h3 g m
theorem srt_able {b : Bool} {n : Nat} {a : Addr} {vs : List Value} {os : List O} (h0 : 0 < vs.length) (hv : VOs s.heap os vs) (sb : Srtb b n os) (hu : A.units + n < cLine) (ha : ∀ o, s.heap.get? a = some o → o.cls ≠ .type "tuple") :
    SrtO.SortableO prog w A s a vs fun v u => ltO (decO s.heap v) (decO s.heap u) := by
  intro h' keep
  have kp : ∀ b o, s.heap.get? b = some o → o.cls = .type "tuple" → h'.get? b = some o := fun c o e q => keep c o (fun z => by subst z; exact ha o e q) e
  have hv' := VOs_keeps kp hv
  obtain ⟨fs, k1, k2, k3⟩ := kat_tups (b := b) (h := h') (vs := vs) fun v m => by
    obtain ⟨o, mo, p⟩ := VOs_mem hv' v m
    exact ⟨o, p, sb.fst o mo⟩
  refine ⟨tuples' b, fun Q E hq => ?_, fun p q hp hq => ?_⟩
  · cases b with
    | true =>
      refine PySem.W.kat_kind (T := .type "int") k1 (by omega) (fun f hm => ?_) (by rfl) ?_
      · have := k3 f hm
        rw [if_pos rfl] at this
        obtain ⟨x, t, rfl⟩ := this
        exact PySem.W.Looks.now
      · have e : (Value.type "int" != Value.type "tuple") = true := by first | decide +kernel | rfl | decide
        rw [e]
        exact hq
    | false =>
      refine PySem.W.kat_kind (T := .type "tuple") k1 (by omega) (fun f hm => ?_) (by rfl) ?_
      · have := k3 f hm
        rw [if_neg (by simp)] at this
        obtain ⟨x, o, rfl, e1, e2⟩ := this
        rw [← e2]
        exact (PySem.W.Looks.ld e1).andThen .now
      · have e : (Value.type "tuple" != Value.type "tuple") = false := by first | decide +kernel | rfl | decide
        rw [e]
        exact hq
  · obtain ⟨o1, m1, p1⟩ := VOs_mem hv p.1 hp
    obtain ⟨o2, m2, p2⟩ := VOs_mem hv q.1 hq
    have p1' := VO_keeps kp p1
    have p2' := VO_keeps kp p2
    show wpAny (model prog w) A (keyLt' (tuples' b) p.1 q.1) (fun r s' => s' = { s with heap := h' } ∧ r = ltO (decO s.heap p.1) (decO s.heap q.1)) (fun _ _ => False) { s with heap := h' }
    rw [decO_eq p1, decO_eq p2]
    have f1 := sb.fst o1 m1
    have f2 := sb.fst o2 m2
    have ok := sb.ok o1 m1 o2 m2
    have dp := sb.dep o1 m1
    cases o1 with
    | i n => unfold fstO at f1; cases f1
    | s x => unfold fstO at f1; cases f1
    | t xs =>
      cases o2 with
      | i n => unfold fstO at f2; cases f2
      | s x => unfold fstO at f2; cases f2
      | t ys =>
        unfold VO at p1' p2'
        obtain ⟨a1, i1, e1, ⟨ob1, g1, c1, n1, d1⟩, v1⟩ := p1'
        obtain ⟨a2, i2, e2, ⟨ob2, g2, c2, n2, d2⟩, v2⟩ := p2'
        rw [e1, e2]
        unfold okO at ok
        unfold depO at dp
        have l1 := VOs_len v1
        have l2 := VOs_len v2
        refine PySem.W.kat_lt g1 d1 g2 d2 ?_
        have := kat_items (s := { s with heap := h' }) (prog := prog) (w := w) (A := A) (b := b) (fin := decide (i1.toArray.size < i2.toArray.size)) (P := fun r => r = ltO (.t xs) (.t ys)) 0 v1 v2 ok (by omega) (fun _ hb x y r r' ex ey => by
            subst ex ey
            cases x with
            | i m =>
              cases y with
              | i n => exact ⟨m, n, rfl, rfl⟩
              | s _ => unfold fstO at f2; cases f2
              | t _ => unfold fstO at f2; rw [hb] at f2; cases f2
            | s _ => unfold fstO at f1; cases f1
            | t _ => unfold fstO at f1; rw [hb] at f1; cases f1) (fun r hr _ => by unfold ltO cmpO; rw [hr]) (by rw [List.size_toArray, List.size_toArray, l1, l2])
        exact this
end
/-! ### abstract values of such -/
mutual
def DV (K : PySem.W.Frag) (H : Hp) : O → V → Prop
  | .i n, v => v = .int n
  | .s x, v => v = .str x
  | .t xs, v => ∃ (a : Addr) (vs : List V), v = .ref a ∧ SqT K H a vs ∧ DVs K H xs vs
def DVs (K : PySem.W.Frag) (H : Hp) : List O → List V → Prop
  | [], [] => True
  | x :: xs, v :: vs => DV K H x v ∧ DVs K H xs vs
  | _, _ => False
end
section
variable {X : Cx} {pins : List (Addr × Obj)} {σ : L2.St} {H : Hp} {s : Shared}
mutual
theorem dv_vo (I : Inv X pins σ H s) : ∀ {o : O} {v : V} {u : Value}, DV X.K H o v → RelV v u → VO s.heap o u
  | .i n, v, u, p, r => by
    unfold DV at p
    subst p
    obtain ⟨t, rfl⟩ := r
    unfold VO
    exact ⟨t, rfl⟩
  | .s n, v, u, p, r => by
    unfold DV at p
    subst p
    obtain ⟨t, rfl⟩ := r
    unfold VO
    exact ⟨t, rfl⟩
  | .t xs, v, u, p, r => by
    unfold DV at p
    obtain ⟨a, vs, rfl, h1, h2⟩ := p
    obtain rfl : u = Value.ref a := r
    obtain ⟨its, rv, ht, _⟩ := I.tuple h1
    unfold VO
    exact ⟨a, its, rfl, ht, dvs_vos I h2 rv⟩
theorem dvs_vos (I : Inv X pins σ H s) : ∀ {os : List O} {vs : List V} {us : List Value}, DVs X.K H os vs → Vals vs us → VOs s.heap os us
  | [], [], us, _, r => by cases r; unfold VOs; trivial
  | x :: xs, v :: vs, us, p, r => by
    unfold DVs at p
    cases r with
    | cons r rr =>
      unfold VOs
      exact ⟨dv_vo I p.1 r, dvs_vos I p.2 rr⟩
  | [], _ :: _, _, p, _ => by unfold DVs at p; exact p.elim
  | _ :: _, [], _, p, _ => by unfold DVs at p; exact p.elim
end
end
section
variable {K : PySem.W.Frag} {H : Hp}
mutual
theorem own_dv : ∀ {o : O} {v : V} {F : Fp}, OwnE K H v (oD o) F → DV K H o v
  | .i n, v, F, p => by unfold oD at p; unfold DV; exact p.of_int
  | .s n, v, F, p => by unfold oD at p; unfold DV; exact p.of_str
  | .t xs, v, F, p => by
    unfold oD at p
    obtain ⟨a, vs, rfl, h1, h2, F', s⟩ := own_tup p
    unfold DV
    exact ⟨a, vs, rfl, h1, own_dvs h2 s⟩
theorem own_dvs : ∀ {os : List O} {vs : List V} {F : Fp}, vs.length = (oDs os).length → Sep (OwnE K H) (vs.zip (oDs os)) F → DVs K H os vs
  | [], [], F, _, _ => by unfold DVs; trivial
  | x :: xs, v :: vs, F, hl, s => by
    have hl' : vs.length = (oDs xs).length := by unfold oDs at hl; simpa using hl
    have s' : Sep (OwnE K H) ((v, oD x) :: vs.zip (oDs xs)) F := by unfold oDs at s; exact s
    obtain ⟨F1, F2, s1, s2, _⟩ := s'
    unfold DVs
    exact ⟨own_dv s1, own_dvs hl' s2⟩
  | [], _ :: _, F, hl, _ => by unfold oDs at hl; cases hl
  | _ :: _, [], F, hl, _ => by unfold oDs at hl; cases hl
end
mutual
theorem imm_oD : ∀ o : O, Imm (oD o)
  | .i n => by unfold oD; exact imm_int
  | .s n => by unfold oD; exact imm_str
  | .t xs => by unfold oD; exact imm_tup (imm_oDs xs)
theorem imm_oDs : ∀ (os : List O), ∀ x ∈ oDs os, Imm x
  | [], x, m => by unfold oDs at m; cases m
  | o :: os, x, m => by
    unfold oDs at m
    rcases List.mem_cons.mp m with rfl | m
    · exact imm_oD o
    · exact imm_oDs os x m
end
end
/-! ### sorted(xs) -/
def rSortO (K : PySem.W.Frag) : List V → Hp → VK → Prop := fun vs H Q => ∃ (a : Addr) (ps : List (V × O)) (b : Bool), vs = [V.ref a] ∧ SqL K H a (ps.map (·.1)) ∧ (∀ p ∈ ps, DV K H p.2 p.1) ∧ Srtb b 60 (ps.map (·.2)) ∧
  ∀ (qs : List (V × O)) (p : Addr), qs.Perm ps → ((qs.map (·.2)).Pairwise fun a b => leO a b = true) → H p = none → Q (.ref p) (upd H p (.lst (qs.map (·.1))))
theorem paired_perm {α β : Type} {R : α → β → Prop} {us out : List β} (p : out.Perm us) : ∀ {xs : List α}, Paired R xs us → ∃ zs, zs.Perm xs ∧ Paired R zs out := by
  induction p with
  | nil => intro xs r; exact ⟨xs, .refl _, r⟩
  | cons a _ ih =>
    intro xs r
    cases r with
    | @cons x _ xs _ h t =>
      obtain ⟨zs, h1, h2⟩ := ih t
      exact ⟨x :: zs, h1.cons _, .cons h h2⟩
  | swap a b l =>
    intro xs r
    cases r with
    | @cons x _ xs _ h t =>
      cases t with
      | @cons y _ ys _ h' t' => exact ⟨y :: x :: ys, .swap _ _ _, .cons h' (.cons h t')⟩
  | trans _ _ ih1 ih2 =>
    intro xs r
    obtain ⟨zs, h1, h2⟩ := ih2 r
    obtain ⟨ws, h3, h4⟩ := ih1 h2
    exact ⟨ws, h3.trans h1, h4⟩
theorem paired_zip {K : PySem.W.Frag} {H : Hp} {h : Heap} : ∀ {ps : List (V × O)} {us : List Value}, Vals (ps.map (·.1)) us → VOs h (ps.map (·.2)) us → Paired (fun (p : V × O) u => RelV p.1 u ∧ VO h p.2 u) ps us
  | [], us, r, _ => by cases r; exact .nil
  | p :: ps, us, r, v => by
    cases r with
    | @cons _ b1 _ l1 r rr =>
      have v' : VO h p.2 b1 ∧ VOs h (ps.map (·.2)) l1 := by simpa [VOs] using v
      exact .cons ⟨r, v'.1⟩ (paired_zip (K := K) (H := H) rr v'.2)
theorem paired_srt {h : Heap} {qs : List (V × O)} {out : List Value} (r : Paired (fun (p : V × O) u => RelV p.1 u ∧ VO h p.2 u) qs out) (hs : SrtO.Srtd (fun v u => ltO (decO h v) (decO h u)) out) : (qs.map (·.2)).Pairwise fun a b => leO a b = true := by
  induction r with
  | nil => exact List.Pairwise.nil
  | @cons p u ps us hp t ih =>
    obtain ⟨a1, a2⟩ := List.pairwise_cons.mp hs
    refine List.pairwise_cons.mpr ⟨fun o m => ?_, ih a2⟩
    obtain ⟨q, mq, rfl⟩ := List.mem_map.mp m
    have : ∃ u' ∈ us, VO h q.2 u' := by
      clear ih a1 a2 hs m
      induction t with
      | nil => cases mq
      | @cons p' u' ps' us' hp' t' ih' =>
        rcases List.mem_cons.mp mq with rfl | mq
        · exact ⟨u', List.mem_cons_self, hp'.2⟩
        · obtain ⟨u2, m2, h2⟩ := ih' mq
          exact ⟨u2, List.mem_cons_of_mem _ m2, h2⟩
    obtain ⟨u', mu, hu⟩ := this
    have g : ltO (decO h u') (decO h u) = false := a1 u' mu
    rw [decO_eq hu, decO_eq hp.2] at g
    show leO p.2 q.2 = true
    unfold leO
    rw [g]
    rfl
theorem paired_vals {h : Heap} {qs : List (V × O)} {out : List Value} (r : Paired (fun (p : V × O) u => RelV p.1 u ∧ VO h p.2 u) qs out) : Vals (qs.map (·.1)) out := by
  induction r with
  | nil => exact .nil
  | cons hp _ ih => exact .cons hp.1 ih
section
variable {X : Cx}
theorem units_in1 {A : Around} : A.in1.units = A.units + 1 := rfl
theorem dvs_of {K : PySem.W.Frag} {H : Hp} : ∀ {ps : List (V × O)}, (∀ p ∈ ps, DV K H p.2 p.1) → DVs K H (ps.map (·.2)) (ps.map (·.1))
  | [], _ => by simp [DVs]
  | p :: ps, h => by
    show DVs K H (p.2 :: ps.map (·.2)) (p.1 :: ps.map (·.1))
    unfold DVs
    exact ⟨h p List.mem_cons_self, dvs_of fun q m => h q (List.mem_cons_of_mem _ m)⟩
theorem cr_sortO (hu : X.A.units + 64 < cLine) : CallR X (.builtin "sorted") (rSortO X.K) := by
  intro pins s σ H vs us Q I r h
  obtain ⟨a, ps, b, rfl, hs, hx, sb, q⟩ := h
  obtain ⟨its, rv, hl, hz⟩ := I.list hs
  obtain ⟨u, rfl, ru⟩ := vals1 r
  obtain rfl : u = Value.ref a := ru
  have vo : VOs s.heap (ps.map (·.2)) its := dvs_vos I (dvs_of hx) rv
  have pz := paired_zip (K := X.K) (H := H) rv vo
  refine SrtO.sorted_ord (ltv := fun v u => ltO (decO s.heap v) (decO s.heap u)) (swoO _) hl.isList (by rw [← rv.length]; exact hz) (fun h2 h₁ a' ha kk => ?_) fun out hs2 hb => ?_
  · have kp : ∀ b o, s.heap.get? b = some o → o.cls = .type "tuple" → h₁.get? b = some o := fun b o e _ => (kk b o e).2
    have vo' := VOs_keeps kp vo
    have sa := srt_able (prog := X.prog) (w := X.w) (A := X.A.in1.in1) (s := { s with heap := h₁ }) (a := a') (b := b) (n := 60) (by omega) vo' sb (by rw [units_in1, units_in1]; omega) (fun o e => by
      have e' : some o = some (seqObj "list" its.toArray 0) := e.symm.trans ha
      cases e'
      intro c
      exact absurd (Value.type.inj c) (by decide))
    -- the same order in both heaps, on the items
    intro h' keep
    obtain ⟨κ, k1, k2⟩ := sa h' keep
    refine ⟨κ, k1, fun p q hp hq => ?_⟩
    have := k2 p q hp hq
    obtain ⟨o1, m1, p1⟩ := VOs_mem vo p.1 hp
    obtain ⟨o2, m2, p2⟩ := VOs_mem vo q.1 hq
    have e1 : decO h₁ p.1 = decO s.heap p.1 := by rw [decO_eq p1, decO_eq (VO_keeps kp p1)]
    have e2 : decO h₁ q.1 = decO s.heap q.1 := by rw [decO_eq p2, decO_eq (VO_keeps kp p2)]
    refine wpAny_mono this (fun r s' z => ?_) fun _ _ x => x
    refine ⟨z.1, ?_⟩
    rw [z.2]
    show ltO (decO h₁ p.1) (decO h₁ q.1) = ltO (decO s.heap p.1) (decO s.heap q.1)
    rw [e1, e2]
  · obtain ⟨qs, h1, h2⟩ := paired_perm hb.perm pz
    have hd := I.hok.fresh (Nat.le_succ s.heap.objs.size)
    obtain ⟨n, hn⟩ := PyProof.Rows.sortedAll_at s.heap its out.toArray
    refine ⟨.ref (s.heap.objs.size + 1), upd H (s.heap.objs.size + 1) (.lst (qs.map (·.1))), I.laid (t' := s.toks) (fun b o e => PyProof.Rows.sortedAll_old e) (Nat.le_succ _) ⟨?_, out, n, paired_vals h2, hn⟩, rfl, q qs _ h1 (paired_srt h2 hs2) hd⟩
    rw [List.length_map, h1.length_eq]
    have := hz
    rw [List.length_map] at this
    exact this
end
end Dl

namespace Dl
open PySem PySem.Spec PyProof.Rows L2 PySem.SeqAt
def keyO : L2.Key → O
  | .inl i => .i i
  | .inr x => .s x
def keysO (ks : List L2.Key) : O := .t (ks.map keyO)
theorem oD_keyO (k : L2.Key) : oD (keyO k) = keyD k := by cases k <;> (unfold keyO oD; rfl)
theorem oDs_keys : ∀ ks : List L2.Key, oDs (ks.map keyO) = ks.map keyD
  | [] => rfl
  | k :: ks => by
    show oDs (keyO k :: ks.map keyO) = keyD k :: ks.map keyD
    unfold oDs
    rw [oD_keyO, oDs_keys ks]
theorem oD_keysO (ks : List L2.Key) : oD (keysO ks) = keysD ks := by
  unfold keysO keysD oD
  rw [oDs_keys]
section
variable {prog : Program} {w : World} {A : Around} {E : Value → Shared → Prop} {s : Shared} {d : Addr} {es : Array DictEntry} {ep : Nat}
/-- the keys of any dict, walked -/
theorem walks_raw (hh : A.handled = none) (I : Addr) (hne : d ≠ I) : Walks prog w A I [I, d] [I] es.size (fun i v => ∃ en, es[i]? = some en ∧ v = en.key) (fun i h => h.IsKeyIter I d i es.size ep ∧ DT.Raw h d es ep) where
  sub := fun b hb => by simp at hb; simp [hb]
  frame := fun _ _ _ st hk => ⟨Heap.IsKeyIter.at st.1 fun o e => hk I (by simp) o e, st.2.at' fun o e => hk d (by simp) o e⟩
  item := fun i s Q E hi st hQ => by
    obtain ⟨od, ho, hc, hd⟩ := id st.2
    obtain ⟨en, hx⟩ : ∃ en, es[i]? = some en := ⟨es[i], by simp [hi]⟩
    refine L2.next_key_item st.1 ho hd rfl hx fun h' hit' hs' => ?_
    exact hQ en.key h' s.toks ⟨en, hx, rfl⟩ ⟨hit', st.2.at' fun o e => (hs'.2 d hne).trans e⟩ fun b o hb e => (hs'.2 b (fun h => hb (by simp [h]))).trans e
  done := fun s Q E st hQ => by
    obtain ⟨od, ho, hc, hd⟩ := id st.2
    exact L2.next_key_end hh st.1 ho hd rfl (Nat.le_refl _) fun h' he' => hQ h' s.toks fun b o hb e => he' b o (fun h => hb (by simp [h])) e
  self := fun _ _ _ _ st hQ => wpAny_pyIter_keyiter st.1 hQ
theorem kdl_raw (lo : (d == sysModules) = false) : PySem.W.KdlSrc prog w "dict" d d es.size (fun i v => ∃ en, es[i]? = some en ∧ v = en.key) (fun h => DT.Raw h d es ep) where
  type := fun _ hm => hm.typeIs
  there := fun _ hm => ⟨hm.lt, hm.lt⟩
  keep := fun _ _ hm hk => hm.at' fun o e => hk d (.inl rfl) o e
  notList := by decide
  notTuple := by decide
  hint := fun _ _ _ _ hm hq => PySem.W.kdl_hint_dict hm.typeIs hq
  iter := fun _ _ hh hm => by
    obtain ⟨od, ho, hc, hd⟩ := id hm
    exact ⟨_, _, (fun _ _ hq => L2.iter_keys lo ho hc hd hq), walks_raw hh _ (Nat.ne_of_lt hm.lt), ⟨⟨_, Heap.get?_push_size _ rfl, rfl, rfl⟩, hm.push _⟩⟩
end
theorem paired_mk {α β : Type} {R : α → β → Prop} : ∀ {xs : List α} {us : List β}, us.length = xs.length → (∀ (i : Nat) (u : β), us[i]? = some u → ∃ x, xs[i]? = some x ∧ R x u) → Paired R xs us
  | [], [], _, _ => .nil
  | x :: xs, u :: us, hl, h => by
    obtain ⟨y, e, r⟩ := h 0 u rfl
    cases e
    exact .cons r (paired_mk (by simpa using hl) fun i v e => by
      obtain ⟨z, h1, h2⟩ := h (i + 1) v (by simpa using e)
      exact ⟨z, by simpa using h1, h2⟩)
  | [], _ :: _, hl, _ => nomatch hl
  | _ :: _, [], hl, _ => nomatch hl
/-- sorted(d), d with keys that are tuples -/
def rSortT (K : PySem.W.Frag) : List V → Hp → VK → Prop := fun vs H Q => ∃ (a : Addr) (kvs : List (List L2.Key × V)) (b : Bool), vs = [V.ref a] ∧ Rd H a (.dT kvs) ∧ Srtb b 60 (kvs.map fun c => keysO c.1) ∧
  ∀ (qs : List (V × O)) (p : Addr), (∀ q ∈ qs, ∃ (t : Addr) (ks : List L2.Key), q = (.ref t, keysO ks) ∧ H t = some (.tup (ks.map kV))) → (qs.map (·.2)).Perm (kvs.map fun c => keysO c.1) → ((qs.map (·.2)).Pairwise fun a b => leO a b = true) → H p = none → Q (.ref p) (upd H p (.lst (qs.map (·.1))))
theorem dvs_keys {K : PySem.W.Frag} {H : Hp} : ∀ ks : List L2.Key, DVs K H (ks.map keyO) (ks.map kV)
  | [] => by simp [DVs]
  | k :: ks => by
    show DVs K H (keyO k :: ks.map keyO) (kV k :: ks.map kV)
    unfold DVs
    refine ⟨?_, dvs_keys ks⟩
    cases k <;> (unfold keyO DV; rfl)
section
variable {X : Cx}
theorem cr_sortT (hcalm : X.calm = true) (hu : X.A.units + 64 < cLine) : CallR X (.builtin "sorted") (rSortT X.K) := by
  intro pins s σ H vs us Q I r h
  obtain ⟨a, kvs, b, rfl, hd, sb, q⟩ := h
  obtain ⟨u, rfl, ru⟩ := vals1 r
  obtain rfl : u = Value.ref a := ru
  obtain ⟨z, lo, xs, rel, o, es, ep, h1, h2, h3, h4, h5⟩ := (show ObjOk X.prog X.w H s.heap a (.dT kvs) from hd.ok I.hok)
  have raw : DT.Raw s.heap a es ep := ⟨o, h1, h2, h3⟩
  have hsz : es.size = kvs.length := by
    have e := congrArg List.length h4
    rw [Array.length_toList, List.length_map] at e
    rw [e, ← Paired.length rel]
  -- the pairs: the key's value, what it says
  let ps : List (V × O) := xs.map fun x => (V.ref x.2.1, keysO x.1)
  have hps2 : ps.map (·.2) = kvs.map fun c => keysO c.1 := by
    have : ∀ {l : List (List L2.Key × V)} {m : List (List L2.Key × Addr × Value)}, Paired (fun (p : List L2.Key × V) (q : List L2.Key × Addr × Value) => p.1 = q.1 ∧ H q.2.1 = some (.tup (p.1.map kV)) ∧ L2.RelV p.2 q.2.2) l m → (m.map fun x => (V.ref x.2.1, keysO x.1)).map (·.2) = l.map fun c => keysO c.1 := by
      intro l m t
      induction t with
      | nil => rfl
      | cons hq _ ih => simp only [List.map_cons]; rw [ih, hq.1]
    exact this rel
  have hkeys : ∀ x ∈ xs, H x.2.1 = some (.tup (x.1.map kV)) := by
    have : ∀ {l : List (List L2.Key × V)} {m : List (List L2.Key × Addr × Value)}, Paired (fun (p : List L2.Key × V) (q : List L2.Key × Addr × Value) => p.1 = q.1 ∧ H q.2.1 = some (.tup (p.1.map kV)) ∧ L2.RelV p.2 q.2.2) l m → ∀ x ∈ m, H x.2.1 = some (.tup (x.1.map kV)) := by
      intro l m t
      induction t with
      | nil => intro x hx; cases hx
      | cons hq _ ih =>
        intro x hx
        rcases List.mem_cons.mp hx with rfl | hx
        · rw [← hq.1]; exact hq.2.1
        · exact ih x hx
    exact this rel
  refine Calls.call_function_entry PyProof.Rows.kind_sorted PyProof.Rows.plain_sorted PyProof.Rows.entry_sorted (PyProof.Rows.args_sorted1 _) ?_
  unfold Builtin.«sorted»
  refine wpAny_bind (m := checkCount "sorted" 1 1 _) (wpAny_pure ?_)
  refine wpAny_bind (PySem.W.kdu_collect (A := X.A.in1) (kdl_raw (es := es) (ep := ep) lo) (I.ok.hd hcalm) raw (by rw [hsz]; exact z) fun h' tk acc hk hacc => ?_)
  have hal : acc.toList.length = es.size := by rw [Array.length_toList]; exact hacc.1
  have I1 : Inv X pins σ H { s with heap := h', toks := tk } := I.kept hk
  -- what was collected
  have pv : Paired (fun (p : V × O) u => L2.RelV p.1 u ∧ VO h' p.2 u) ps acc.toList := by
    refine paired_mk (by rw [hal, hsz]; have := congrArg List.length hps2; simp only [List.length_map] at this ⊢; exact this.symm) fun i u e => ?_
    obtain ⟨en, e1, e2⟩ := hacc.2 i u (by rw [← Array.getElem?_toList]; exact e)
    have e3 : es.toList[i]? = some en := by rw [Array.getElem?_toList]; exact e1
    rw [h4, List.getElem?_map] at e3
    cases e4 : xs[i]? with
    | none => rw [e4] at e3; cases e3
    | some x =>
      rw [e4] at e3
      cases e3
      refine ⟨(V.ref x.2.1, keysO x.1), by show (xs.map _)[i]? = _; rw [List.getElem?_map, e4]; rfl, ?_⟩
      have hx := hkeys x (List.mem_of_getElem? e4)
      rw [e2]
      refine ⟨rfl, ?_⟩
      refine dv_vo I1 (o := keysO x.1) (v := V.ref x.2.1) ?_ rfl
      unfold keysO DV
      exact ⟨x.2.1, _, rfl, SqT.of hx, dvs_keys x.1⟩
  have vo : VOs h' (ps.map (·.2)) acc.toList := by
    have : ∀ {ps : List (V × O)} {us : List Value}, Paired (fun (p : V × O) u => L2.RelV p.1 u ∧ VO h' p.2 u) ps us → VOs h' (ps.map (·.2)) us := by
      intro ps us t
      induction t with
      | nil => simp [VOs]
      | cons hq _ ih => simp only [List.map_cons]; unfold VOs; exact ⟨hq.2, ih⟩
    exact this pv
  refine wpAny_bind (wpAny_newList ?_ (by rw [hal, hsz]; exact z))
  have hoL : (h'.push (seqObj "list" acc.toList.toArray 0)).get? h'.objs.size = some (seqObj "list" acc.toList.toArray 0) := Heap.get?_push_size _ rfl
  have kp : ∀ b o, h'.get? b = some o → o.cls = .type "tuple" → (h'.push (seqObj "list" acc.toList.toArray 0)).get? b = some o := fun b o e _ => Heap.get?_push_of_some _ e
  have vo' := VOs_keeps kp vo
  show wpAny _ _ _ _ _ { s with heap := h'.push (seqObj "list" acc.toList.toArray 0), toks := tk }
  refine wpAny_bind (wpAny_holding (wpAny_call_entry PyProof.Rows.slot_list_sort ⟨_, hoL, rfl⟩ PyProof.Rows.entry_list_sort
    (SrtO.list_sort_ord (ltv := fun v u => ltO (decO (h'.push (seqObj "list" acc.toList.toArray 0)) v) (decO (h'.push (seqObj "list" acc.toList.toArray 0)) u)) (s := { s with heap := h'.push (seqObj "list" acc.toList.toArray 0), toks := tk }) (swoO _) hoL (by rw [hal, hsz]; exact z) (fun h2 => ?_) fun out hs2 hb => ⟨_, rfl, ?_⟩)
    (PyProof.Rows.args_list_sort _)))
  · refine srt_able (s := { s with heap := h'.push (seqObj "list" acc.toList.toArray 0), toks := tk }) (b := b) (n := 60) (by omega) vo' (by rw [hps2]; exact sb) (by rw [units_in1, units_in1]; omega) fun o e => ?_
    have e' : some o = some (seqObj "list" acc.toList.toArray 0) := e.symm.trans hoL
    cases e'
    intro c
    exact absurd (Value.type.inj c) (by decide)
  · have pv' : Paired (fun (p : V × O) u => L2.RelV p.1 u ∧ VO (h'.push (seqObj "list" acc.toList.toArray 0)) p.2 u) ps acc.toList := Paired.mapP pv fun p u x => ⟨x.1, VO_keeps kp x.2⟩
    obtain ⟨qs, g1, g2⟩ := paired_perm hb.perm pv'
    obtain ⟨e', he'⟩ := PyProof.Rows.sortedHeap_at (vs := acc.toList) (out := out.toArray) hoL
    have hlen : (qs.map (·.1)).length ≤ sizeLine := by
      rw [List.length_map, g1.length_eq]
      have := congrArg List.length hps2
      simp only [List.length_map] at this
      have e5 : ps.length = kvs.length := this
      rw [e5]
      exact z
    refine wpAny_pure ⟨_, rfl, .ref h'.objs.size, upd H h'.objs.size (.lst (qs.map (·.1))), I1.laid (t' := tk) (fun b u e => ?_) (Nat.le_refl _)
      (show ObjOk X.prog X.w _ _ _ (.lst (qs.map (·.1))) from ⟨hlen, out, e', paired_vals g2, he'⟩), rfl, q qs _ (fun c m => ?_) (by rw [← hps2]; exact g1.map _) (paired_srt g2 hs2) (I1.hok.fresh (Nat.le_refl _))⟩
    · have hb : b < h'.objs.size := Heap.lt_size e
      rw [PyProof.Rows.sortedHeap_old (Nat.ne_of_lt hb) (by rw [size_push']; exact Nat.lt_succ_of_lt hb)]
      exact Heap.get?_push_of_some _ e
    · have m' := g1.mem_iff.mp m
      obtain ⟨x, mx, rfl⟩ := List.mem_map.mp m'
      exact ⟨x.2.1, x.1, rfl, hkeys x mx⟩
end
/-- sorted(x): of ints, of ordered data, of a dict's keys -/
inductive SrtS (δ : Env) : List Rs → (D → Prop) → Prop
  | ofI {r : Rs} {ns : List Int} {P : D → Prop} : rsv δ r = some (.lst (ns.map .int)) → P (.lst ((srtI ns).map .int)) → SrtS δ [r] P
  | os {r : Rs} {b : Bool} {os : List O} {P : D → Prop} : rsv δ r = some (.lst (os.map oD)) → Srtb b 60 os → P (.lst ((srtO os).map oD)) → SrtS δ [r] P
  | dT {r : Rs} {b : Bool} {kvs : List (List L2.Key × D)} {P : D → Prop} : rsv δ r = some (.dT kvs) → Srtb b 60 (kvs.map fun c => keysO c.1) → P (.lst ((srtO (kvs.map fun c => keysO c.1)).map oD)) → SrtS δ [r] P
section
variable {X : Cx} {f : Fm} {δ δ' : Env} {e a b c o g i : Expr} {es rest : List Expr} {pos p2 p3 : Pos} {Ψ : Rs → Env → Prop} {k : Nat}
variable {N : List Str} {sc : Scope} {Pr : Program} {w : World} {K : PySem.W.Frag} {mg : Str → Option Value} {base : Heap}
theorem de_sorted {p : Pos} (B : Bd X N sc) (J : Jn X Pr w K mg base) (hr : Room k X.A) (hg : Gls sc "sorted") (hm : mg "sorted" = none) (h : DA X f δ [e] fun rs δ1 => SrtS δ1 rs fun d => Ψ (.v d) δ1) (he : starEach [e] X.env = (false, eval e X.env) :: starEach [] X.env := by rfl) : DE X f δ (.Call (.Name "sorted" p) [e] [] pos) Ψ :=
  de_bltn (CallR.or cr_sortedI (CallR.or (cr_sortO hr.units) (cr_sortT B.calm hr.units))) B J hg hm (by rfl) (he := he) (h := h.mono fun rs δ1 k => by
    cases k with
    | ofI h1 k =>
      refine callOk1 fun H σ T v Q R q => .inl ?_
      obtain ⟨a, rfl, hs⟩ := IntsS.at R h1
      refine ⟨a, _, rfl, hs, fun ns' p h2 h3 hp => ?_⟩
      have e := srtI_uniq h2 h3
      subst e
      refine q _ _ _ k (R.tail.newI hp (show upd H p _ p = _ from upd_same) (by simp [kids]) fun c m => ?_)
      have m' : c ∈ ((srtI _).map V.int).zip ((srtI _).map D.int) := m
      rw [List.zip_map'] at m'
      obtain ⟨y, _, rfl⟩ := List.mem_map.mp m'
      exact .int
    | os h1 sb k =>
      rename_i r b os
      refine callOk1 fun H σ T v Q R q => .inr (.inl ?_)
      obtain ⟨F, o⟩ := R.res (v := v) (r := r) (by simp) h1
      obtain ⟨a, vs, rfl, e1, l1, F1, s1⟩ := own_lst o
      have hl : vs.length = os.length := by simpa using l1
      have e3 : (vs.zip os).map (·.1) = vs := List.map_fst_zip (by omega)
      have e4 : (vs.zip os).map (·.2) = os := List.map_snd_zip (by omega)
      have hown : ∀ p ∈ vs.zip os, OwnE X.K H p.1 (oD p.2) fun _ => False := fun p m => by
        have m2 : (p.1, oD p.2) ∈ vs.zip (os.map oD) := by
          rw [show vs.zip (os.map oD) = (vs.zip os).map fun p => (p.1, oD p.2) by rw [List.zip_map_right]; rfl]
          exact List.mem_map.mpr ⟨p, m, rfl⟩
        exact sep_imm s1 (fun x hx => by obtain ⟨y, _, rfl⟩ := List.mem_map.mp hx; exact imm_oD y) _ m2
      refine ⟨a, vs.zip os, b, rfl, by rw [e3]; exact SqL.of e1, fun p m => own_dv (hown p m), by rw [e4]; exact sb, fun qs p h2 h3 hp => ?_⟩
      have hq : qs.map (·.2) = srtO os := srtO_uniq (by rw [← e4]; exact h2.map _) h3
      refine q _ _ _ k (R.tail.newI hp (show upd H p _ p = _ from upd_same) (by simp [kids, ← hq]) fun c m => ?_)
      have m' : c ∈ (qs.map (·.1)).zip ((srtO os).map oD) := m
      rw [← hq, List.map_map, List.zip_map'] at m'
      obtain ⟨y, my, rfl⟩ := List.mem_map.mp m'
      exact hown y (h2.mem_iff.mp my)
    | dT h1 sb k =>
      rename_i r b kvs
      refine callOk1 fun H σ T v Q R q => .inr (.inr ?_)
      obtain ⟨F, o⟩ := R.res (v := v) (r := r) (by simp) h1
      obtain ⟨a, vs, rfl, e1, l1, F1, s1⟩ := own_dT o
      have e4 : (((kvs.map (·.1)).zip vs).map fun c => keysO c.1) = kvs.map fun c => keysO c.1 := by
        have : ((kvs.map (·.1)).zip vs).map (·.1) = kvs.map (·.1) := List.map_fst_zip (by simp [l1])
        have e5 := congrArg (List.map keysO) this
        rw [List.map_map, List.map_map] at e5
        exact e5
      refine ⟨a, _, b, rfl, .inl e1, by rw [e4]; exact sb, fun qs p h2 h3 h4 hp => ?_⟩
      rw [e4] at h3
      have hq : qs.map (·.2) = srtO (kvs.map fun c => keysO c.1) := srtO_uniq h3 h4
      refine q _ _ _ k (R.tail.newI hp (show upd H p _ p = _ from upd_same) (by simp [kids, ← hq]) fun c m => ?_)
      have m' : c ∈ (qs.map (·.1)).zip ((srtO (kvs.map fun c => keysO c.1)).map oD) := m
      rw [← hq, List.map_map, List.zip_map'] at m'
      obtain ⟨y, my, rfl⟩ := List.mem_map.mp m'
      obtain ⟨t, ks, rfl, ht⟩ := h2 y my
      show OwnE X.K H (.ref t) (oD (keysO ks)) fun _ => False
      rw [oD_keysO]
      refine OwnE.node (F' := fun _ => False) (d := .tup (ks.map keyD)) (vs := ks.map kV) (SqT.of ht) (by simp [kids]) ?_ (fun _ q => q) (fun q => nomatch q)
      show Sep (OwnE X.K H) ((ks.map kV).zip (ks.map keyD)) _
      rw [List.zip_map']
      exact Sep.freeAll fun c m => by
        obtain ⟨y, _, rfl⟩ := List.mem_map.mp m
        exact .leaf (leaf_keyD y))
end
end Dl

namespace Dl
open PySem PySem.Spec PyProof.Rows L2 PySem.SeqAt
/-! ### {k: v, ..} -/
def trD (X : Cx) (f : Fm) : List (Option Expr) → List Expr → List (TE × TE)
  | some a :: ks, b :: vs => (uE X f a, uE X f b) :: trD X f ks vs
  | _, _ => []
structure DPs (X : Cx) (f : Fm) (δ : Env) (ks : List (Option Expr)) (vs : List Expr) (Λ : List L2.Key → List D → Env → Prop) : Prop where
  h : ∀ (σ : L2.St) (H : Hp) (Q : List (V × V) → Hp → Prop) (T : List (V × Rs)), Rp X.K f H σ δ T → (∀ kys ds δ' ws H', Λ kys ds δ' → ws.length = ds.length → kys.length = ds.length → Rp X.K f H' σ δ' (tv (ws.zip ds) ++ T) → Q ((kys.map kV).zip ws) H') → tPairs (trD X f ks vs) σ H Q
section
variable {X : Cx} {f : Fm} {δ δ' : Env} {e a b c o g i : Expr} {es rest : List Expr} {pos p2 p3 : Pos} {Ψ : Rs → Env → Prop} {k : Nat} {Λ : List L2.Key → List D → Env → Prop} {ks : List (Option Expr)} {vs : List Expr}
end
end Dl

namespace Dl
open PySem PySem.Spec PyProof.Rows L2 PySem.SeqAt
section
variable {X : Cx} {f : Fm} {δ δ' : Env} {e a b c o g i : Expr} {es rest : List Expr} {pos p2 p3 p4 : Pos} {Ψ : Rs → Env → Prop} {Φ : Ph} {Λ : List Rs → Env → Prop} {Θ : Bool → Env → Prop}
theorem g_max1 (h : DE X f δ (.Call (.Name "max" p2) [e] [] pos) Ψ) : DE X f δ (.Call (.Name "max" p2) [e] [] pos) Ψ := h
theorem g_sorted (h : DE X f δ (.Call (.Name "sorted" p2) [e] [] pos) Ψ) : DE X f δ (.Call (.Name "sorted" p2) [e] [] pos) Ψ := h
theorem g_con {c : Const} {k : Nat} (h : DE X f δ (.Constant c k pos) Ψ) : DE X f δ (.Constant c k pos) Ψ := h
theorem g_bin {op : Operator} (h : DE X f δ (.BinOp a op b pos) Ψ) : DE X f δ (.BinOp a op b pos) Ψ := h
theorem g_un {op : UnaryOp} (h : DE X f δ (.UnaryOp op a pos) Ψ) : DE X f δ (.UnaryOp op a pos) Ψ := h
theorem g_bo {op : BoolOp} (h : DE X f δ (.BoolOp op es pos) Ψ) : DE X f δ (.BoolOp op es pos) Ψ := h
theorem g_cmp {ops : List CmpOp} (h : DE X f δ (.Compare a ops es pos) Ψ) : DE X f δ (.Compare a ops es pos) Ψ := h
theorem g_sub {s : Expr} (h : DE X f δ (.Subscript a s pos) Ψ) : DE X f δ (.Subscript a s pos) Ψ := h
theorem g_call {kw : List Keyword} (h : DE X f δ (.Call a es kw pos) Ψ) : DE X f δ (.Call a es kw pos) Ψ := h
theorem g_tcmp {ops : List CmpOp} (h : DT X f δ (.Compare a ops es pos) Θ) : DT X f δ (.Compare a ops es pos) Θ := h
theorem g_as {tgs : List Expr} (h : DS X f δ (.Assign tgs e pos) Φ) : DS X f δ (.Assign tgs e pos) Φ := h
/-! ### the shapes of what is asked behind a rule -/
theorem ex_tv {d : D} {P : D → Env → Prop} (h : P d δ) : ∃ d' δ2, Take δ (.v d) d' δ2 ∧ P d' δ2 := ⟨d, δ, .v, h⟩
theorem ex_ts {i : Nat} {d : D} {P : D → Env → Prop} (e : δ[i]? = some (some d)) (h : P d (δ.set i none)) : ∃ d' δ2, Take δ (.s i) d' δ2 ∧ P d' δ2 := ⟨_, _, .s e, h⟩
theorem ex_1v {d : D} {P : Rs → D → Env → Prop} (h : P (.v d) d δ) : ∃ r d' δ2, [Rs.v d] = [r] ∧ Take δ r d' δ2 ∧ P r d' δ2 := ⟨_, _, _, rfl, .v, h⟩
theorem ex_takes {rs : List Rs} {ds : List D} {P : List D → Env → Prop} (t : Takes δ rs ds δ') (h : P ds δ') : ∃ ds' δ2, Takes δ rs ds' δ2 ∧ P ds' δ2 := ⟨_, _, t, h⟩
theorem ex_int {i : Int} {P : Int → Prop} (h : P i) : ∃ k, Rs.v (.int i) = .v (.int k) ∧ P k := ⟨_, rfl, h⟩
theorem ex_int2 {i j : Int} {P : Int → Int → Prop} (h : P i j) : ∃ k l, Rs.v (.int i) = .v (.int k) ∧ Rs.v (.int j) = .v (.int l) ∧ P k l := ⟨_, _, rfl, rfl, h⟩
theorem ex_bl {i : Bool} {P : Bool → Prop} (h : P i) : ∃ k, Rs.v (.bl i) = .v (.bl k) ∧ P k := ⟨_, rfl, h⟩
theorem ex_str {i : Str} {P : Str → Prop} (h : P i) : ∃ k, Rs.v (.str i) = .v (.str k) ∧ P k := ⟨_, rfl, h⟩
theorem ex_one {r : Rs} {P : Rs → Prop} (h : P r) : ∃ k, [r] = [k] ∧ P k := ⟨_, rfl, h⟩
theorem ex_look {i y : Str} {tab : List (Str × Str)} {P : Str → Str → Prop} (e : tab.lookup i = some y) (h : P i y) : ∃ z y', Rs.v (.str i) = .v (.str z) ∧ tab.lookup z = some y' ∧ P z y' := ⟨_, _, rfl, e, h⟩
theorem ex_call {rs : List Rs} {ds : List D} {n : Nat} {P : List D → Prop} (e : rsvs δ rs = some ds) (hn : rs.length = n) (hs : (slots rs).Nodup) (h : P ds) : ∃ ds', rsvs δ rs = some ds' ∧ rs.length = n ∧ (slots rs).Nodup ∧ P ds' := ⟨_, e, hn, hs, h⟩
end
section
variable {X : Cx} {f : Fm} {N : List Str} {sc : Scope} {tg elt : Expr} {ifs : List Expr} {Ψ : Rs → Env → Prop}
theorem lc_mapB {α : Type} {own : List Nat} {rs : List Rs} {ds : List D} {δ1 : Env} (l : List α) (u g : α → D) (hds : ds = l.map u) (h1 : noSl rs = true) (h0 : rsvs (clr δ1 own) rs = rsvs δ1 rs) (h2 : l.length < sizeLine)
    (h3 : ∀ (i : Nat) (a : α), l[i]? = some a → Turn1 X N sc f tg elt ifs own (u a) (clr δ1 own) fun o δ3 => o = some (g a) ∧ δ3 = clr δ1 own) (h4 : Ψ (.v (.lst (l.map g))) (clr δ1 own)) : LcOkG X N sc f tg elt ifs own Ψ rs ds δ1 := by
  refine lc_mapG l u (fun a => some (g a)) hds h1 h0 h2 h3 ?_
  have e : l.filterMap (fun a => some (g a)) = l.map g := congrFun (List.filterMap_eq_map (f := g)) l
  rw [e]
  exact h4
end
theorem ixN_nat {n : Nat} {i : Int} (h0 : 0 ≤ i) (h1 : i < n) : ixN n i = some i.toNat := by
  unfold ixN
  simp [h0, h1]
theorem atI_map {α β : Type} {l : List α} {g : α → β} {i : Int} {a : α} (h0 : 0 ≤ i) (h : l[i.toNat]? = some a) : atI (l.map g) i = some (g a) := by
  have hl := (List.getElem?_eq_some_iff.mp h).1
  unfold atI
  rw [ixN_nat h0 (by rw [List.length_map]; omega)]
  show (l.map g)[i.toNat]? = _
  rw [List.getElem?_map, h]
  rfl
theorem getD_some {l : List Int} {i : Int} (h0 : 0 ≤ i) (h1 : i < l.length) : l[i.toNat]? = some (l.getD i.toNat 0) := by
  rw [List.getD_eq_getElem?_getD, List.getElem?_eq_getElem (by omega)]; rfl
end Dl

namespace Dl
open PySem L2
/-! ### a for over few written items: turn by turn -/
section
variable {X : Cx} {f : Fm} {δ δ' : Env} {e a b c o g i tg iter : Expr} {es rest : List Expr} {pos p2 p3 p4 : Pos} {Ψ : Rs → Env → Prop} {Φ : Ph} {Λ : List Rs → Env → Prop} {Θ : Bool → Env → Prop}
variable {N : List Str} {sc : Scope}
end
end Dl

namespace Dl
open PySem L2
/-! ### the end: tuples of texts of the module, classes, methods -/
section
variable {Pr : Program} {w : World} {K : PySem.W.Frag} {mg : Str → Option Value} {base h : Heap}
structure ClAt (K : PySem.W.Frag) (x : Str) (C : Addr) : Prop where
  at_ : PySem.W.nsIn K mainGlobals x = some (some (.ref C))
  cls : Cls K C
  mks : PySem.W.makesIn K C = true
  kp : PySem.W.keepIn K (.ref C) = true
def MtAt (K : PySem.W.Frag) (C : Addr) (m qual : Str) (st : Stmt) : Prop := ∃ f fd, PySem.W.findIn K (.ref C) m = some (some (.ref f)) ∧ PySem.W.isFn K (.ref f) = true ∧ L2.Fun K m qual st f fd
theorem MtAt.g {k n : Nat} {C : Addr} {m qual : Str} {st : Stmt} {ps : List Str} {pre : Pre} (F : MtAt K C m qual st) (hb : ∀ f fd, L2.Fun K m qual st f fd → Binds K fd ps [])
    (ok : ∀ f fd, L2.Fun K m qual st f fd → FnOk Pr w K mg base CX0 k f fd ps (spD K n pre)) : GMt Pr w K mg base k C m n pre := by
  obtain ⟨f, fd, a, i, F⟩ := F
  exact ⟨f, fd, ps, ⟨a, i, F.kp⟩, hb f fd F, ok f fd F⟩
theorem MtAt.mk {k n : Nat} {C : Addr} {x qual : Str} {st : Stmt} {ps : List Str} {pre : Pre} (F : MtAt K C "__init__" qual st) (L : ClAt K x C) (X : K.In h) (G : h.Ns mainGlobals mg) (hb : ∀ f fd, L2.Fun K "__init__" qual st f fd → Binds K fd ps [])
    (ok : ∀ f fd, L2.Fun K "__init__" qual st f fd → FnOk Pr w K mg base CX0 k f fd ps (spD K (n + 1) pre)) : GMk Pr w K mg base k x C n pre := by
  obtain ⟨f, fd, a, i, F⟩ := F
  exact ⟨f, fd, ps, PySem.W.mg_of X G L.at_, ⟨L.mks, a, i, L.kp⟩, hb f fd F, ok f fd F⟩
end
end Dl

namespace Dl
open PySem L2
/-! ### the rising list of the members -/
def insU (k : Int) : List Int → List Int
  | [] => [k]
  | a :: l => if k < a then k :: a :: l else if k = a then a :: l else a :: insU k l
def srtU : List Int → List Int
  | [] => []
  | a :: l => insU a (srtU l)
theorem insU_mem {k x : Int} : ∀ {l : List Int}, x ∈ insU k l ↔ x = k ∨ x ∈ l
  | [] => by simp [insU]
  | a :: l => by
    unfold insU
    split
    · simp
    · split
      · next h => subst h; simp
      · rw [List.mem_cons, insU_mem, List.mem_cons]
        constructor
        · rintro (h | h | h) <;> simp [h]
        · rintro (h | h | h) <;> simp [h]
theorem insU_sorted {k : Int} : ∀ {l : List Int}, l.Pairwise (· < ·) → (insU k l).Pairwise (· < ·)
  | [], _ => by simp [insU]
  | a :: l, h => by
    obtain ⟨h1, h2⟩ := List.pairwise_cons.mp h
    unfold insU
    split
    · next q =>
      refine List.pairwise_cons.mpr ⟨fun x m => ?_, h⟩
      rcases List.mem_cons.mp m with rfl | m
      · exact q
      · exact Int.lt_trans q (h1 x m)
    · split
      · exact h
      · refine List.pairwise_cons.mpr ⟨fun x m => ?_, insU_sorted h2⟩
        rcases insU_mem.mp m with rfl | m
        · omega
        · exact h1 x m
theorem srtU_mem {x : Int} : ∀ {l : List Int}, x ∈ srtU l ↔ x ∈ l
  | [] => Iff.rfl
  | a :: l => by
    show x ∈ insU a (srtU l) ↔ _
    rw [insU_mem, srtU_mem, List.mem_cons]
theorem srtU_sorted : ∀ (l : List Int), (srtU l).Pairwise (· < ·)
  | [] => List.Pairwise.nil
  | _ :: l => insU_sorted (srtU_sorted l)
theorem rise_uniq : ∀ {a b : List Int}, a.Pairwise (· < ·) → b.Pairwise (· < ·) → (∀ x, x ∈ a ↔ x ∈ b) → a = b
  | [], [], _, _, _ => rfl
  | [], y :: b, _, _, h => absurd ((h y).mpr List.mem_cons_self) (by simp)
  | x :: a, [], _, _, h => absurd ((h x).mp List.mem_cons_self) (by simp)
  | x :: a, y :: b, ha, hb, h => by
    obtain ⟨a1, a2⟩ := List.pairwise_cons.mp ha
    obtain ⟨b1, b2⟩ := List.pairwise_cons.mp hb
    have exy : x = y := by
      rcases List.mem_cons.mp ((h x).mp List.mem_cons_self) with e | m
      · exact e
      · rcases List.mem_cons.mp ((h y).mpr List.mem_cons_self) with e | m2
        · exact e.symm
        · have := b1 x m
          have := a1 y m2
          omega
    subst exy
    congr 1
    refine rise_uniq a2 b2 fun z => ?_
    constructor
    · intro m
      rcases List.mem_cons.mp ((h z).mp (List.mem_cons_of_mem _ m)) with e | m2
      · have := a1 z m; omega
      · exact m2
    · intro m
      rcases List.mem_cons.mp ((h z).mpr (List.mem_cons_of_mem _ m)) with e | m2
      · have := b1 z m; omega
      · exact m2
theorem srtU_len : ∀ (l : List Int), (srtU l).length ≤ l.length
  | [] => Nat.le_refl _
  | a :: l => by
    have hi : ∀ (k : Int) (m : List Int), (insU k m).length ≤ m.length + 1 := by
      intro k m
      induction m with
      | nil => simp [insU]
      | cons b m ih =>
        unfold insU
        split
        · simp
        · split
          · simp
          · simp; omega
    have := hi a (srtU l)
    have := srtU_len l
    show (insU a (srtU l)).length ≤ l.length + 1
    omega
/-! ### set(xs) of a list of ints -/
section
open PySem.Spec PyProof.Rows
variable {P : Program} {w : World} {A : Around} {E : Value → Shared → Prop} {s : Shared}
def emptyS (w : World) : Obj := { cls := .type "set", dict := none, data := .set #[] 0 (.fresh 0 0 (!w.params.followText "set-order")) }
theorem not_two {b x y : Addr} (h1 : b ≠ x) (h2 : b ≠ y) : b ∉ [x, y] := fun m => by
  rcases List.mem_cons.mp m with e | m
  · exact h1 e
  · exact h2 (List.mem_singleton.mp m)
/-- what set(xs) leaves -/
def SetMade (w : World) (s : Shared) (ns : List Int) (s2 : Shared) : Prop := ∃ (h' : Heap) (tk c : Nat), s2 = { s with heap := h', toks := tk } ∧ SetR w h' s.heap.objs.size (fun j => decide (j ∈ ns)) c ∧ c ≤ ns.length ∧ ∀ b o, s.heap.get? b = some o → h'.get? b = some o
theorem setOfList {l : Addr} {items : Array Value} (ns : List Int) {Q : Value → Shared → Prop} (hh : A.handled = none) (hl : s.heap.IsList l items) (hit : IntsAre items.toList ns) (hb : ns.length + 1 < scanBound) (h : ∀ s2, SetMade w s ns s2 → Q (.ref s.heap.objs.size) s2) : wpAny (model P w) A (call (.type "set") [.ref l]) Q E s := by
  have hisz : items.size = ns.length := by
    have q := IntsAre.length hit; rw [Array.length_toList] at q; exact q
  obtain ⟨c, tl, hmro⟩ := F.called_set.mro; have hmade := F.called_set.made; have hsub := F.called_set.sub
  refine wpAny_call (codeAny_of_tree ?_); show wpAny _ _ (callAny (.type "set") _) _ _ _
  refine wpAny_pure ⟨Code.quiet_builtin _ (by decide +kernel), codeAny_builtin F.entry_type_call ?_⟩; rw [Around.under_plain (weight_type_call_type "set" [.ref l] []) rfl]
  have h1 := F.called_set.notType; have h2 := F.called_set.canCreate; have hct := F.typeCall_set_1 (.ref l); repeat (any_goals (first | assumption | wp_step))
  refine codeAny_mono (code_set_led1 (.ref l) (E := E) (Q₁ := fun obj s₁ => obj = .ref s.heap.objs.size ∧ s₁ = { s with heap := s.heap.push (emptyS w) }) ⟨rfl, rfl⟩) fun r s₁ hr => ?_
  rcases r with e | fl
  · exact hr
  · cases fl with
    | ret obj =>
      obtain ⟨rfl, rfl⟩ := hr
      have hS : (s.heap.push (emptyS w)).get? s.heap.objs.size = some (emptyS w) := Heap.get?_push_size _ rfl
      have hT : Shared.TypeIs { s with heap := s.heap.push (emptyS w) } (.ref s.heap.objs.size) "set" := ⟨_, hS, rfl⟩
      have hli := F.called_set.init.lookup; have hbi := F.called_set.init.bind (.ref s.heap.objs.size); repeat (any_goals (first | assumption | wp_step))
      refine codeAny_mono (codeAny_call_builtin (R := wants (fun r s₂ => r = .none ∧ SetMade w s ns s₂) E) F.called_set.init.plain F.entry_set_init (check_set_init_1 hT ?_)) fun r₂ s₂ hr₂ => ?_
      · obtain ⟨ol, hol, hcl, nl, hdl⟩ := hl; obtain ⟨ocls, odict, odata, oslots⟩ := ol
        simp only at hcl hdl; subst hcl; subst hdl
        have hol' : (s.heap.push (emptyS w)).get? l = some { cls := .type "list", dict := odict, data := .seq items nl, slots := oslots } := Heap.get?_push_of_some _ hol
        have hsls := F.sub_list_set; have hslf := F.sub_list_frozenset
        have hne : (Value.type "list" == Value.type "dict") = false := by decide
        have hl1 : (s.heap.push (emptyS w)).IsList l items := ⟨_, hol', rfl, nl, rfl⟩
        unfold Builtin.«set.__init__» noKeywords Builtin.Frozenset.updateFrom
        generalize hPI : pyIter = PI; wp_walk; subst hPI
        refine wpAny_pyIter_list (s := { s with heap := s.heap.push (emptyS w) }) hl1 ?_; refine wpAny_bind (wpAny_runValue ?_)
        have hlS : l < s.heap.objs.size := Heap.lt_size hol
        have hh3 : A.in1.in1.in1.handled = none := by simp [hh]
        have hz1 : (s.heap.push (emptyS w)).objs.size = s.heap.objs.size + 1 := Heap.size_push ..
        have hneI : l ≠ (s.heap.push (emptyS w)).objs.size := by rw [hz1]; exact Nat.ne_of_lt (Nat.lt_succ_of_lt hlS)
        have hSf : s.heap.objs.size ∉ [(s.heap.push (emptyS w)).objs.size, l] := not_two (by rw [hz1]; exact Nat.ne_of_lt (Nat.lt_succ_self _)) (Nat.ne_of_gt hlS)
        have hval : ∀ (i : Nat) (v : Value), items[i]? = some v → ∃ k t, ns[i]? = some k ∧ v = .int k t := fun i v hv => by
          obtain ⟨t, e⟩ := IntsAre.int_at hit i v (by rw [Array.getElem?_toList]; exact hv); have hi : i < ns.length := by rw [← hisz]; exact (Array.getElem?_eq_some_iff.mp hv).1
          refine ⟨ns[i], t, List.getElem?_eq_getElem hi, ?_⟩; rw [e, List.getD_eq_getElem?_getD, List.getElem?_eq_getElem hi] <;> rfl
        refine set_update_ints ((Walks.list hh3 _ l hneI items).toS) s.heap.objs.size hSf ns hisz hb hval (items.size - 0) 0 _ (by omega) (Nat.zero_le _) ⟨⟨_, Heap.get?_push_size _ rfl, rfl, rfl⟩, (hl1.push _)⟩ ⟨0, Nat.le_refl 0, setR_new_at (Heap.get?_push_of_some _ hS)⟩ ?hR
        rintro ⟨h', g2, d', tk', os'⟩ c' hm hc' hS'
        have eg : g2 = s.gens := hm.gens; have ed : d' = s.drawn := hm.drawn; have eo : os' = s.os := hm.os
        subst eg; subst ed; subst eo
        show wpAny _ _ _ _ _ _; refine wpAny_pure ?_; show wpAny _ _ (ret Value.none) _ _ _
        rw [hisz] at hc'
        refine wpAny_pure ⟨rfl, h', tk', c', rfl, hS', hc', fun b o e => ?_⟩
        have hb0 : b < s.heap.objs.size := Heap.lt_size e
        refine hm.heap b o ?_ (Heap.get?_push_of_some _ (Heap.get?_push_of_some _ e))
        intro m
        have m' : b ∈ [s.heap.objs.size, (s.heap.push (emptyS w)).objs.size] := m
        rw [hz1] at m'
        exact not_two (b := b) (Nat.ne_of_lt hb0) (Nat.ne_of_lt (Nat.lt_succ_of_lt hb0)) m'
      · rcases r₂ with e | fl₂
        · exact hr₂
        · cases fl₂ with
          | ret r =>
            obtain ⟨rfl, hm⟩ := hr₂; repeat (any_goals (first | assumption | wp_step))
            exact h _ hm
          | _ => exact hr₂.elim
    | _ => exact hr.elim
theorem setOfTup {l : Addr} {items : Array Value} (ns : List Int) {Q : Value → Shared → Prop} (hh : A.handled = none) (hl : s.heap.IsTuple l items) (hit : IntsAre items.toList ns) (hb : ns.length + 1 < scanBound) (h : ∀ s2, SetMade w s ns s2 → Q (.ref s.heap.objs.size) s2) : wpAny (model P w) A (call (.type "set") [.ref l]) Q E s :=
  call_set_tupI ns hh hl hit hb fun h' tk c R hc k => h _ ⟨h', tk, c, rfl, R, hc, k⟩
end
end Dl

namespace Dl
open PySem L2 PySem.Spec PyProof.Rows
/-! ### sorted(set(xs)) -/
def rSet (w : World) (K : PySem.W.Frag) : List V → Hp → VK → Prop := fun vs H Q => ∃ (a : Addr) (ns : List Int), vs = [V.ref a] ∧ (SqL K H a (ns.map V.int) ∨ SqT K H a (ns.map V.int)) ∧ ns.length ≤ 1000 ∧
  ∀ (p : Addr) (n : Nat), n ≤ ns.length → H p = none → Q (.ref p) (upd H p (SetO w p (fun k => decide (k ∈ ns)) n))
section
variable {X : Cx}
theorem cr_set (hc : X.calm = true) : CallR X (.type "set") (rSet X.w X.K) := by
  intro pins s σ H vs us Q I r h
  obtain ⟨a, ns, rfl, hs, hn, q⟩ := h
  rw [Vals.ref1 r]
  have fin : ∀ s2, SetMade X.w s ns s2 → EP X pins σ Q (.ref s.heap.objs.size) s2 := by
    rintro s2 ⟨h', tk, c, rfl, R, hcn, k⟩
    exact ⟨.ref _, upd H s.heap.objs.size (SetO X.w s.heap.objs.size (fun k => decide (k ∈ ns)) c), I.laid (t' := tk) k (Nat.le_refl _) (setO_new R), rfl, q _ c hcn (I.hok.fresh (Nat.le_refl _))⟩
  rcases hs with hs | hs
  · obtain ⟨its, rv, pl, hz⟩ := I.list hs
    obtain ⟨o, n, ho, h1, h2, h3⟩ := pl
    exact setOfList ns (I.ok.hd hc) (show s.heap.IsList a its.toArray from ⟨o, ho, h1, n, h3⟩) (ints_of_vals rv) (by unfold scanBound; omega) fin
  · obtain ⟨its, rv, pl, hz⟩ := I.tuple hs
    exact setOfTup ns (I.ok.hd hc) (show s.heap.IsTuple a its.toArray from pl) (ints_of_vals rv) (by unfold scanBound; omega) fin
end
inductive StS (δ : Env) : List Rs → (List Int → Prop) → Prop
  | mk {r : Rs} {d : D} {ns : List Int} {P : List Int → Prop} : rsv δ r = some d → itemsOf d = some (ns.map .int) → ns.length ≤ 63 → P ns → StS δ [r] P
section
variable {X : Cx} {f : Fm} {δ : Env} {e : Expr} {es : List Expr} {pos : Pos} {Ψ : Rs → Env → Prop}
variable {N : List Str} {sc : Scope} {Pr : Program} {w : World} {K : PySem.W.Frag} {mg : Str → Option Value} {base : Heap}
theorem de_sortSet {p p2 q : Pos} (B : Bd X N sc) (J : Jn X Pr w K mg base) (hg : Gls sc "sorted") (hm : mg "sorted" = none) (hg2 : Gls sc "set") (hm2 : mg "set" = none)
    (h : DA X f δ [e] fun rs δ1 => StS δ1 rs fun ns => Ψ (.v (.lst ((srtU ns).map .int))) δ1) (he : starEach [e] X.env = (false, eval e X.env) :: starEach [] X.env := by rfl)
    (he2 : starEach [.Call (.Name "set" p2) [e] [] q] X.env = (false, eval (.Call (.Name "set" p2) [e] [] q) X.env) :: starEach [] X.env := by rfl) : DE X f δ (.Call (.Name "sorted" p) [.Call (.Name "set" p2) [e] [] q] [] pos) Ψ := by
  have i1 : PE X (.Call (.Name "set" p2) [e] [] q) _ := pe_callTy (cr_set B.calm) (B.glob hg2) (by rw [J.mg]; exact hm2) PyProof.Rows.boot_set h.h (by decide) (by decide) he rfl
  refine DE.of (pe_callB (cr_sortedSet B.calm) (B.glob hg) (by rw [J.mg]; exact hm) (by rfl) (pa_cons i1 pa_nil he2) (by decide) (by decide) he2 rfl) fun σ H Q ⟨T, R, q⟩ => ?_
  refine ⟨T, R, fun rs δ1 vs H1 k hl R1 => ?_⟩
  cases k with
  | @mk r d ns _ h1 h2 h3 k =>
    obtain ⟨v, rfl, ez⟩ := one_of (T := T) rfl hl
    rw [ez] at R1
    obtain ⟨F, o⟩ := R1.res (v := v) (r := r) (by simp) h1
    obtain ⟨a, ws, rfl, hs, hlen, F', sp⟩ := own_items o h2
    have ew : ws = ns.map V.int := ints_own hlen sp
    subst ew
    refine ⟨a, ns, rfl, hs, by omega, fun p n hn hp => ⟨p, _, n, rfl, upd_same, by omega, fun ms p2 m1 m2 m3 hp2 => ?_⟩⟩
    have em : ms = srtU ns := rise_uniq m1 (srtU_sorted ns) fun x => by rw [m2, srtU_mem, decide_eq_true_eq]
    subst em
    refine q _ _ _ _ k ((R1.tail.new hp).newI hp2 (show upd _ p2 _ p2 = _ from upd_same) (by simp [kids]) fun c m => ?_)
    have m' : c ∈ ((srtU ns).map V.int).zip ((srtU ns).map D.int) := m
    rw [List.zip_map'] at m'
    obtain ⟨y, _, rfl⟩ := List.mem_map.mp m'
    exact .int
theorem g_sortSet {p p2 q : Pos} (h : DE X f δ (.Call (.Name "sorted" p) [.Call (.Name "set" p2) [e] [] q] [] pos) Ψ) : DE X f δ (.Call (.Name "sorted" p) [.Call (.Name "set" p2) [e] [] q] [] pos) Ψ := h
end
end Dl

namespace Dl
open PySem L2
/-! ### dict(xs) of a list of pairs whose keys are tuples made here -/
structure Pr4 where
  t : Addr
  b : Addr
  k : List L2.Key
  v : V
def mergeT (acc kvs : List (List L2.Key × V)) : List (List L2.Key × V) := kvs.foldl (fun a c => L2.putK a c.1 c.2) acc
section
variable {X : Cx} {pins : List (Addr × Obj)} {σ : L2.St} {H : Hp} {s : Shared}
theorem KT.all {H : Hp} : ∀ (kvs : List (List L2.Key × V)) (ps : List (List L2.Key × Addr × Value)) (acc : List (List L2.Key × V)) (xs : List (List L2.Key × Addr × Value)), KT H kvs ps → KT H acc xs → KT H (mergeT acc kvs) (storedAllH xs ps)
  | [], [], _, _, _, r => r
  | [], _ :: _, _, _, t, _ => nomatch t
  | _ :: _, [], _, _, t, _ => nomatch t
  | c :: kvs, p :: ps, acc, xs, t, r => by
    cases t with
    | cons h t =>
      obtain ⟨h1, h2, h3⟩ := h
      refine KT.all kvs ps (L2.putK acc c.1 c.2) (storedH xs p.1 p.2.1 p.2.2) t ?_
      rw [← h1]
      exact r.put c.1 h2 h3
end
end Dl

namespace Dl
open PySem L2
def mergeD (acc gs : List (List L2.Key × D)) : List (List L2.Key × D) := gs.foldl (fun a c => putD a c.1 c.2) acc
section
variable {K : PySem.W.Frag} {H : Hp}
/-- a pair (key tuple made here, data) -/
def kpD (c : List L2.Key × D) : D := .tup [.tk (c.1.map keyD), c.2]
end
inductive DctS (δ : Env) : List Rs → (D → Prop) → Prop
  | mk {r : Rs} {gs : List (List L2.Key × D)} {P : D → Prop} : rsv δ r = some (.lst (gs.map kpD)) → (∀ c ∈ gs, Imm c.2) → P (.dT (mergeD [] gs)) → DctS δ [r] P
section
variable {X : Cx} {f : Fm} {δ : Env} {e : Expr} {es : List Expr} {pos : Pos} {Ψ : Rs → Env → Prop} {k : Nat}
variable {N : List Str} {sc : Scope} {Pr : Program} {w : World} {K : PySem.W.Frag} {mg : Str → Option Value} {base : Heap}
end
end Dl

namespace Dl
open PySem L2
/-! ### a dict locked while it is walked -/
section
variable {K : PySem.W.Frag} {H H' : Hp} {p : Addr}
/-- all but p stays -/
def Tp (p : Addr) (H H' : Hp) : Prop := ∀ a, a ≠ p → (∀ xs, H a = some (.tup xs) → H' a = some (.tup xs)) ∧ (∀ o u, H a = some (.frz o u) → H' a = some (.frz o u)) ∧ ∀ φ, H a = some (.ext φ) → H' a = some (.ext φ)
theorem Node.frame2 {od : Obj} {ws : List (List L2.Key × V)} {d : D} {a : Addr} {vs : List V} (hp : H p = some (.frz od (.dT ws))) (t : Tp p H H') (h : Node K H d a vs) (e : isMut d = true → H' a = H a) : Node K H' d a vs := by
  have nt : ∀ {xs : List V}, H a = some (.tup xs) → H' a = some (.tup xs) := fun h => (t a (fun q => by rw [q, hp] at h; cases h)).1 _ h
  cases d with
  | tup _ =>
    rcases h with (h | ⟨o, h⟩) | h
    · exact .inl (.inl (nt h))
    · exact .inl (.inr ⟨o, (t a (fun q => by rw [q, hp] at h; cases h)).2.1 _ _ h⟩)
    · exact .inr h
  | tk _ => exact nt h
  | fz _ =>
    rcases h with ⟨o, h⟩ | h
    · exact .inl ⟨o, (t a (fun q => by rw [q, hp] at h; cases h)).2.1 _ _ h⟩
    · exact .inr h
  | lst _ => exact (e rfl).trans h
  | dK _ => exact (e rfl).trans h
  | dT _ => exact (e rfl).trans h
  | lkK _ => obtain ⟨o, h⟩ := h; exact ⟨o, (e rfl).trans h⟩
  | lkT _ _ _ => exact ⟨(e rfl).trans h.1, h.2⟩
  | obj _ _ => obtain ⟨o, h⟩ := h; exact ⟨o, (e rfl).trans h⟩
  | fn _ =>
    obtain ⟨L, q, h⟩ := h
    refine ⟨L, q, fun p' m => ⟨(h p' m).1, ?_⟩⟩
    obtain ⟨s, e⟩ := h p' m
    have ne : p'.1 ≠ p := fun z => by
      rw [z, hp] at e
      rcases s with ⟨xs, s⟩ | ⟨φ, s⟩ | ⟨o, xs, s⟩ <;> rw [s] at e <;> cases e
    rcases s with ⟨xs, s⟩ | ⟨φ, s⟩ | ⟨o, xs, s⟩
    · rw [s] at e ⊢; exact (t _ ne).1 _ e
    · rw [s] at e ⊢; exact (t _ ne).2.2 _ e
    · rw [s] at e ⊢; exact (t _ ne).2.1 _ _ e
  | _ => exact h.elim
theorem Own.frame2 {od : Obj} {ws : List (List L2.Key × V)} (hp : H p = some (.frz od (.dT ws))) (t : Tp p H H') : ∀ {n : Nat} {v : V} {d : D} {F : Fp}, Own K H n v d F → (∀ x, F x → H' x = H x) → Own K H' n v d F
  | 0, _, _, _, h, _ => h
  | n + 1, v, d, F, h, g => by
    rcases h with h | ⟨e, h1, h2⟩ | ⟨a, vs, h1, h2, h3, F', h4, h5, h6⟩
    · exact .inl h
    · exact .inr (.inl ⟨e, h1, Own.frame2 hp t h2 g⟩)
    · exact .inr (.inr ⟨a, vs, h1, h2.frame2 hp t fun q => g a (h6 q).1, h3, F', h4.monoR fun _ _ _ _ s r => Own.frame2 hp t r fun x q => g x (h5 x (s x q)), h5, h6⟩)
end
section
variable {K : PySem.W.Frag} {f : Fm} {H : Hp} {σ : L2.St} {δ : Env} {T : List (V × Rs)} {j : Nat} {kvs : List (List L2.Key × D)}
theorem Rp.lock (R : Rp K f H σ δ T) (hd : δ[j]? = some (some (.dT kvs))) (im : ∀ c ∈ kvs, Imm c.2) : ∃ (p : Addr) (ws : List (List L2.Key × V)), σ[j]? = some (some (.ref p)) ∧ H p = some (.dT ws) ∧
    ∀ od, ∃ f' : Fm, f'.pn = j :: f.pn ∧ Rp K f' (upd H p (.frz od (.dT ws))) σ (δ.set j (some (.lkT od ws kvs))) T ∧
      ∀ {H' : Hp} {σ' : L2.St} {δ' : Env} {T' : List (V × Rs)}, Rp K f' H' σ' δ' T' → δ'[j]? = some (some (.lkT od ws kvs)) → H' p = some (.frz od (.dT ws)) ∧ Rp K f (upd H' p (.dT ws)) σ' (δ'.set j (some (.dT kvs))) T' := by
  obtain ⟨v, hv, R2⟩ := R.out hd
  obtain ⟨F, s, hF⟩ := R2.own
  obtain ⟨F1, F2, o1, s2, dj, sb1, sb2⟩ := s
  obtain ⟨p, vs, hn, hl, F3, h3, h4, h5⟩ : ∃ (p : Addr) (vs : List V), v = .ref p ∧ vs.length = kvs.length ∧ ∃ F3 : Fp, Sep (OwnE K H) (vs.zip (kvs.map (·.2))) F3 ∧ (H p = some (.dT ((kvs.map (·.1)).zip vs))) ∧ F1 p := by
    obtain ⟨a, vs, e1, h2, h3, F', h4, h5, h6⟩ := o1.of_node rfl (fun _ _ q => nomatch q)
    exact ⟨a, vs, e1, by simpa [kids] using h3, F', h4, h2, (h6 rfl).1⟩
  subst hn
  have nF2 : ¬ F2 p := dj p h5
  have tne : ∀ q ∈ f.tb, q.1 ≠ p := fun q m e => by
    obtain ⟨ps, h1, _⟩ := R.fr.t q m
    rw [e, h4] at h1
    cases h1
  refine ⟨p, _, hv, h4, fun od => ?_⟩
  have t1 : Tx H (upd H p (.frz od (.dT ((kvs.map (·.1)).zip vs)))) := fun a => by
    by_cases e : a = p
    · rw [e, h4]; exact ⟨(fun _ q => nomatch q), (fun _ _ q => nomatch q), (fun _ q => nomatch q)⟩
    · rw [upd_ne e]; exact ⟨fun _ q => q, fun _ _ q => q, fun _ q => q⟩
  have ivs : ∀ c ∈ vs.zip (kvs.map (·.2)), OwnE K H c.1 c.2 fun _ => False := sep_imm h3 fun x m => by
    obtain ⟨c, hc, rfl⟩ := List.mem_map.mp m
    exact im c hc
  have s3 : Sep (OwnE K (upd H p (.frz od (.dT ((kvs.map (·.1)).zip vs))))) (T.map tc ++ cells σ (δ.set j (some (.opq (.ref p))))) F2 := s2.monoR fun v d F' _ hs o => o.frame t1 fun x q => upd_ne (fun e => nF2 (e ▸ hs x q))
  refine ⟨⟨upd H p (.frz od (.dT ((kvs.map (·.1)).zip vs))), fun x => F2 x ∨ x = p, j :: f.pn, fun i => if i = j then .ref p else f.pv i, f.tb⟩, rfl, ?_, ?_⟩
  · have R3 : Rp K ⟨upd H p (.frz od (.dT ((kvs.map (·.1)).zip vs))), fun x => F2 x ∨ x = p, j :: f.pn, fun i => if i = j then .ref p else f.pv i, f.tb⟩ (upd H p (.frz od (.dT ((kvs.map (·.1)).zip vs)))) σ (δ.set j (some (.opq (.ref p)))) ((.ref p, .v (.lkT od ((kvs.map (·.1)).zip vs) kvs)) :: T) := by
      refine ⟨R2.len, R2.has, ⟨fun x => x = p ∨ F2 x, ⟨fun x => x = p, F2, ?_, s3, fun x e q => nF2 (e ▸ q), fun x q => .inl q, fun x q => .inr q⟩, fun x q => ?_⟩, fun c m i e => ?_, ⟨fun a u h _ _ => h, tabs_step R.fr.t (fun q m u hq => by rw [upd_ne (tne q m)]; exact hq) (fun a φ hq => by rw [upd_ne (fun e => by rw [e, h4] at hq; cases hq)]; exact hq),
        fun q m => ⟨fun z => z.elim (fun z => (hF _ (sb2 _ z)).elim (R.fr.o q m).1 (R.fr.o q m).2) (tne q m), by
          show upd H p _ q.1 ≠ none
          rw [upd_ne (tne q m)]
          obtain ⟨ps, h1, _⟩ := R.fr.t q m
          rw [h1]
          exact fun z => nomatch z⟩⟩, Tx.refl _, fun i m => ?_⟩
      · refine OwnE.node (vs := vs) (F' := fun _ => False) (show _ ∧ _ from ⟨upd_same, rfl⟩) (by simpa [kids] using hl) ?_ (fun _ q => q.elim) (fun _ => ⟨rfl, fun q => q⟩)
        exact Sep.freeAll fun c m => (ivs c m).frame t1 fun _ q => q.elim
      · rcases q with q | q
        · exact .inl (.inr q)
        · exact .inl (.inl q)
      · rcases List.mem_cons.mp m with e2 | m
        · rw [e2] at e; cases e
        · exact R2.tmp c (List.mem_cons_of_mem _ m) i e
      · by_cases e : i = j
        · rw [e]; simpa using hv
        · have := R2.pin i (by
            rcases List.mem_cons.mp m with q | q
            · exact absurd q e
            · exact q)
          simpa [e] using this
    have R4 := R3.back hv
    rw [List.set_set] at R4
    exact R4
  · intro H' σ' δ' T' R' hd'
    have hp' : H' p = some (.frz od (.dT ((kvs.map (·.1)).zip vs))) := (R'.tx p).2.1 _ _ upd_same
    refine ⟨hp', ?_⟩
    have hj : σ'[j]? = some (some (.ref p)) := by have := R'.pin j List.mem_cons_self; simpa using this
    obtain ⟨v', hv', R3⟩ := R'.out hd'
    rw [hj] at hv'
    cases hv'
    obtain ⟨F', s', hF'⟩ := R3.own
    obtain ⟨G1, G2, g1, g2, gd, gs1, gs2⟩ := s'
    have hG1 : G1 p := by
      obtain ⟨a, ws, e1, h2, h3, F4, h4, h5, h6⟩ := g1.of_node rfl (fun _ _ q => nomatch q)
      cases e1
      exact (h6 rfl).1
    have nG2 : ¬ G2 p := gd p hG1
    have t2 : Tp p H' (upd H' p (.dT ((kvs.map (·.1)).zip vs))) := fun a e => by
      rw [upd_ne e]; exact ⟨fun _ q => q, fun _ _ q => q, fun _ q => q⟩
    have t3 : Tx H (upd H' p (.dT ((kvs.map (·.1)).zip vs))) := fun a => by
      by_cases e : a = p
      · rw [e, h4]; exact ⟨(fun _ q => nomatch q), (fun _ _ q => nomatch q), (fun _ q => nomatch q)⟩
      · rw [upd_ne e]
        have h0 : upd H p (.frz od (.dT ((kvs.map (·.1)).zip vs))) a = H a := upd_ne e
        exact ⟨fun xs q => (R'.tx a).1 xs (h0.trans q), fun o u q => (R'.tx a).2.1 o u (h0.trans q), fun o q => (R'.tx a).2.2 o (h0.trans q)⟩
    have s4 : Sep (OwnE K (upd H' p (.dT ((kvs.map (·.1)).zip vs)))) (T'.map tc ++ cells σ' (δ'.set j (some (.opq (.ref p))))) G2 := g2.monoR fun v d F5 _ hs o => by
      obtain ⟨n, o⟩ := o
      exact ⟨n, o.frame2 hp' t2 fun x q => upd_ne (fun e => nG2 (e ▸ hs x q))⟩
    have R5 : Rp K f (upd H' p (.dT ((kvs.map (·.1)).zip vs))) σ' (δ'.set j (some (.opq (.ref p)))) ((.ref p, .v (.dT kvs)) :: T') := by
      refine ⟨R3.len, R3.has, ⟨fun x => x = p ∨ G2 x, ⟨fun x => x = p, G2, ?_, s4, fun x e q => nG2 (e ▸ q), fun x q => .inl q, fun x q => .inr q⟩, fun x q => ?_⟩, fun c m i e => ?_, ⟨fun a u h na nt => ?_, tabs_step R'.fr.t (fun q m u hq => by rw [upd_ne (tne q m)]; exact hq) (fun a φ hq => by rw [upd_ne (fun e => by rw [e, hp'] at hq; cases hq)]; exact hq), R.fr.o⟩, fun a => ?_, fun i m => ?_⟩
      · refine OwnE.node (vs := vs) (F' := fun _ => False) (show upd H' p _ p = _ from upd_same) (by simpa [kids] using hl) ?_ (fun _ q => q.elim) (fun _ => ⟨rfl, fun q => q⟩)
        exact Sep.freeAll fun c m => (ivs c m).frame t3 fun _ q => q.elim
      · have hx : F1 x ∨ F2 x ∨ H x = none := by
          rcases q with q | q
          · exact .inl (q ▸ h5)
          · rcases hF' x (gs2 x q) with z | z
            · rcases z with z | z
              · exact .inr (.inl z)
              · exact .inl (z ▸ h5)
            · refine .inr (.inr ?_)
              have z' : upd H p (.frz od (.dT ((kvs.map (·.1)).zip vs))) x = none := z
              by_cases e : x = p
              · rw [e, upd_same] at z'; cases z'
              · rw [upd_ne e] at z'; exact z'
        rcases hx with z | z | z
        · exact hF x (sb1 x z)
        · exact hF x (sb2 x z)
        · exact R.free0 z
      · rcases List.mem_cons.mp m with e2 | m
        · rw [e2] at e; cases e
        · exact R3.tmp c (List.mem_cons_of_mem _ m) i e
      · have e1 := R.fr.k a u h na nt
        have np : a ≠ p := fun e => by
          rcases hF p (sb1 p h5) with z | z
          · exact na (e ▸ z)
          · rw [e, z] at h; cases h
        rw [upd_ne np]
        refine R'.fr.k a u ((upd_ne np).trans e1) (fun z => ?_) nt
        rcases z with z | z
        · rcases hF a (sb2 a z) with y | y
          · exact na y
          · rw [y] at h; cases h
        · exact np z
      · exact ⟨fun xs q => (t3 a).1 xs ((R.tx a).1 xs q), fun o u q => (t3 a).2.1 o u ((R.tx a).2.1 o u q), fun o q => (t3 a).2.2 o ((R.tx a).2.2 o q)⟩
      · by_cases e : i = j
        · have hpv := R.pin i m
          rw [e] at hpv ⊢
          rw [hj, ← hpv, hv]
        · have := R'.pin i (List.mem_cons_of_mem _ m)
          simpa [e] using this
    have R6 := R5.back hj
    rw [List.set_set] at R6
    exact R6
end
end Dl

namespace Dl
open PySem L2
section
variable {X : Cx} {f : Fm} {δ : Env} {e tg iter : Expr} {es : List Expr} {st : Stmt} {pos : Pos} {Ψ : Rs → Env → Prop} {Φ : Ph} {k j : Nat} {kvs : List (List L2.Key × D)}
/-! ### its keys walked -/
def keyTs (kvs : List (List L2.Key × D)) : List D := kvs.map fun c => keysD c.1
inductive KeyS (δ : Env) : Rs → (List Rs → List D → Prop) → Prop
  | mk {r : Rs} {od : Obj} {ws : List (List L2.Key × V)} {kvs : List (List L2.Key × D)} {P : List Rs → List D → Prop} : rsv δ r = some (.lkT od ws kvs) → P [r] (keyTs kvs) → KeyS δ r P
end
end Dl

namespace Dl
open PySem L2
/-! ### items() of a locked dict with tuple keys -/
section
variable {X : Cx} {pins : List (Addr × Obj)} {σ : L2.St} {H : Hp} {s : Shared} {d : Addr} {o : Obj}
end
section
variable {P : Program} {w : World} {K : PySem.W.Frag} {d : Addr} {o : Obj} {es : Array DictEntry} {ep : Nat}
end
section
variable {X : Cx} {tg e : Expr} {td : TE} {apos cpos : Pos}
end
/-! ### at data -/
def itemTs (kvs : List (List L2.Key × D)) : List D := kvs.map kpD
section
variable {X : Cx} {f : Fm} {δ : Env} {e : Expr} {kvs : List (List L2.Key × D)} {apos cpos : Pos}
inductive ItmS (δ : Env) : Rs → (List Rs → List D → Prop) → Prop
  | mk {r : Rs} {od : Obj} {ws : List (List L2.Key × V)} {kvs : List (List L2.Key × D)} {P : List Rs → List D → Prop} : rsv δ r = some (.lkT od ws kvs) → (∀ c ∈ kvs, Imm c.2) → P [r] (itemTs kvs) → ItmS δ r P
end
end Dl

namespace Dl
open PySem L2
theorem CallR.orA {X : Cx} {v : Value} {r r' : List V → Hp → VK → Prop} (a : CallR X v r) (b : CallR X v r') : CallR X v fun vs H Q => r vs H Q ∨ r' vs H Q := fun pins s σ H vs us Q I rv h => h.elim (fun h => a pins s σ H vs us Q I rv h) fun h => b pins s σ H vs us Q I rv h
inductive LenQ (δ : Env) : List Rs → (D → Prop) → Prop
  | s {rs : List Rs} {P : D → Prop} : LenS δ rs P → LenQ δ rs P
  | dT {r : Rs} {kvs : List (List L2.Key × D)} {P : D → Prop} : rsv δ r = some (.dT kvs) → P (.int (kvs.length : Nat)) → LenQ δ [r] P
inductive CntS (δ : Env) : Rs → List Rs → (D → Prop) → Prop
  | mk {ro r : Rs} {ns : List Int} {y : Int} {P : D → Prop} : rsv δ ro = some (.lst (ns.map .int)) → rsv δ r = some (.int y) → P (.int (ns.count y : Nat)) → CntS δ ro [r] P
section
variable {X : Cx} {f : Fm} {δ : Env} {e : Expr} {es : List Expr} {pos : Pos} {Ψ : Rs → Env → Prop} {k : Nat}
variable {N : List Str} {sc : Scope} {Pr : Program} {w : World} {K : PySem.W.Frag} {mg : Str → Option Value} {base : Heap}
theorem de_lenQ {p : Pos} (B : Bd X N sc) (J : Jn X Pr w K mg base) (hg : Gls sc "len") (hm : mg "len" = none) (h : DA X f δ [e] fun rs δ1 => LenQ δ1 rs fun d => Ψ (.v d) δ1) (he : starEach [e] X.env = (false, eval e X.env) :: starEach [] X.env := by rfl) : DE X f δ (.Call (.Name "len" p) [e] [] pos) Ψ :=
  de_bltn (CallR.orA call_len call_len_dT) B J hg hm PySem.boot_len (he := he) (h := h.mono fun rs δ1 k => by
    cases k with
    | s k => exact fun H σ T vs Q hl R q => .inl (k.ok H σ T vs Q hl R q)
    | @dT r kvs _ h1 k =>
      refine callOk1 fun H σ T v Q R q => .inr ?_
      obtain ⟨F, o⟩ := R.res (v := v) (r := r) (by simp) h1
      obtain ⟨a, vs, rfl, hp, hl, _⟩ := own_dT o
      have e : ((kvs.map (·.1)).zip vs).length = kvs.length := by rw [List.length_zip, List.length_map, hl, Nat.min_self]
      exact ⟨a, _, rfl, hp, by rw [e]; exact q _ _ _ k (R.tail.pushL rfl)⟩)
end
end Dl

namespace Dl
open PySem L2
/-! ### a dict of the module, numbers by texts -/
section
variable {X : Cx} {f : Fm} {δ : Env} {e a b c : Expr} {es rest : List Expr} {pos p2 : Pos} {Ψ : Rs → Env → Prop}
variable {N : List Str} {sc : Scope} {Pr : Program} {w : World} {K : PySem.W.Frag} {mg : Str → Option Value} {base : Heap} {k n m : Nat}
end
section
variable {Pr : Program} {w : World} {K : PySem.W.Frag} {mg : Str → Option Value} {base h : Heap}
inductive KdEsI : List DictEntry → List (Str × Int) → Prop
  | nil : KdEsI [] []
  | cons {hsh : Int} {x : Str} {y : Int} {t u : Tok} {es : List DictEntry} {tab : List (Str × Int)} : KdEsI es tab → KdEsI (⟨hsh, .str x t, .int y u⟩ :: es) ((x, y) :: tab)
end
end Dl

namespace Dl
open PySem L2
inductive EqQ (δ : Env) (ra rb : Rs) (P : Bool → Prop) : Prop
  | l (h : L2s ra rb fun va vb => scal va vb = true ∧ P (decide (va = vb))) : EqQ δ ra rb P
  | d (h : EqS δ ra rb P) : EqQ δ ra rb P
section
variable {X : Cx} {f : Fm} {δ : Env} {a b : Expr} {pos : Pos} {Ψ : Rs → Env → Prop} {Θ : Bool → Env → Prop} {k : Nat}
theorem opr_or {op : Value → Value → Sem Value} {r r' : R2} (a : OpR X op r) (b : OpR X op r') : OpR X op fun x y H Q => r x y H Q ∨ r' x y H Q := OpR.or a b
theorem cmp_eqQ (hr : Room k X.A) : CmpOk X f .Eq fun δ ra rb P => EqQ δ ra rb P := by
  obtain ⟨r1, o1, h1⟩ := cmp_eqL (X := X) (f := f)
  obtain ⟨r2, o2, h2⟩ := cmp_eqD (X := X) (f := f) hr
  exact ⟨_, opr_or o1 o2, fun δ ra rb P q => by
    cases q with
    | l q => exact op2_l (h1 δ ra rb P q)
    | d q => exact op2_r (h2 δ ra rb P q)⟩
theorem cmp_neQ (hr : Room k X.A) : CmpOk X f .NotEq fun δ ra rb P => EqQ δ ra rb fun b => P (!b) := by
  obtain ⟨r1, o1, h1⟩ := cmp_neL (X := X) (f := f)
  obtain ⟨r2, o2, h2⟩ := cmp_neD (X := X) (f := f) hr
  exact ⟨_, opr_or o1 o2, fun δ ra rb P q => by
    cases q with
    | l q => exact op2_l (h1 δ ra rb P q)
    | d q => exact op2_r (h2 δ ra rb P q)⟩
theorem dt_eqQ (hr : Room k X.A) (h : DE X f δ a fun ra δ1 => DE X f δ1 b fun rb δ2 => EqQ δ2 ra rb fun t => Θ t δ2) : DT X f δ (.Compare a [.Eq] [b] pos) Θ := dt_cmp (cmp_eqQ hr) h (nomark _)
theorem de_eqQ (hr : Room k X.A) (h : DE X f δ a fun ra δ1 => DE X f δ1 b fun rb δ2 => EqQ δ2 ra rb fun t => Ψ (.v (.bl t)) δ2) : DE X f δ (.Compare a [.Eq] [b] pos) Ψ := de_cmp (cmp_eqQ hr) h (nomark _)
theorem dt_neQ (hr : Room k X.A) (h : DE X f δ a fun ra δ1 => DE X f δ1 b fun rb δ2 => EqQ δ2 ra rb fun t => Θ (!t) δ2) : DT X f δ (.Compare a [.NotEq] [b] pos) Θ := dt_cmp (cmp_neQ hr) h (nomark _)
theorem eqD_self {n : Nat} {d : D} (h : Shp n d) (l : n ≤ 64) : eqD d d = true := SeqAt.eqv_refl _ h.lay
/-- data equal as it stands -/
theorem eqS_self {ra rb : Rs} {d : D} {n : Nat} {P : Bool → Prop} (h1 : rsv δ ra = some d) (h2 : rsv δ rb = some d) (s : Shp n d) (l : n ≤ 64) (p : P true) : EqQ δ ra rb P := .d (.mk h1 h2 s s l l (by rw [eqD_self s l]; exact p))
end
end Dl

namespace Dl
open PySem L2
section
variable {X : Cx} {f : Fm} {δ : Env} {tg e : Expr} {pos : Pos} {ds : List D} {sl : List Nat} {Ψ : Env → Prop}
end
end Dl

namespace Dl
open PySem L2
/-! ### a list frozen for good -/
section
variable {K : PySem.W.Frag} {f : Fm} {H : Hp} {σ : L2.St} {δ : Env} {T : List (V × Rs)} {v : V} {d : D} {π : List Nat} {xs : List D}
theorem Rp.frz (R : Rp K f H σ δ ((v, .v d) :: T)) (h : dAt d π = some (.lst xs)) (im : ∀ x ∈ xs, Imm x) :
    ∃ (a : Addr) (vs : List V), H a = some (.lst vs) ∧ ∀ od, Rp K f (upd H a (.frz od (.lst vs))) σ δ ((v, .v (dSet d π (.fz xs))) :: T) := by
  obtain ⟨F, s, k⟩ := R.own
  obtain ⟨F1, F2, s1, s2, dj, k1, k2⟩ := s
  obtain ⟨w, G1, G2, g1, g2, gd, m1, m2⟩ := own_takeP s1 h
  obtain ⟨a, vs, rfl, hn, hl, F', h4, h5, h6⟩ := g1.of_node rfl (fun _ _ q => nomatch q)
  have ha : H a = some (.lst vs) := hn
  obtain ⟨hG1, hF'⟩ := h6 rfl
  refine ⟨a, vs, ha, fun od => ?_⟩
  have tn : Tx H (upd H a (.frz od (.lst vs))) := fun b => by
    by_cases e : b = a
    · rw [e, ha]; exact ⟨(fun _ q => nomatch q), (fun _ _ q => nomatch q), (fun _ q => nomatch q)⟩
    · rw [upd_ne e]; exact ⟨fun _ q => q, fun _ _ q => q, fun _ q => q⟩
  have o1 : OwnE K (upd H a (.frz od (.lst vs))) (.ref a) (.fz xs) fun _ => False := by
    refine OwnE.node (vs := vs) (F' := fun _ => False) (show Fzl K _ a vs from .inl ⟨od, upd_same⟩) hl ?_ (fun _ q => q) (fun q => nomatch q)
    exact Sep.freeAll fun c m => (sep_imm h4 im c m).frame tn fun _ q => q.elim
  have o2 : OwnE K (upd H a (.frz od (.lst vs))) v (dSet d π (.opq (.ref a))) G2 := g2.frame tn fun x q => upd_ne fun e => gd a hG1 (e ▸ q)
  have o3 := own_giveP o2 h o1 fun _ q _ => q
  have s3 : Sep (OwnE K (upd H a (.frz od (.lst vs)))) (T.map tc ++ cells σ δ) F2 := s2.monoR fun v d F' _ hs o => o.frame tn fun x q => upd_ne fun e => dj a (m1 a hG1) (e ▸ hs x q)
  refine ⟨R.len, R.has, ⟨F, ⟨_, F2, o3, s3, fun x q z => ?_, fun x q => ?_, k2⟩, k⟩, fun c m j e => ?_, R.fr.step fun b u h1 h2 => ?_, R.tx.trans tn, R.pin⟩
  · rcases q with q | q
    · exact q
    · exact dj x (m2 x q) z
  · rcases q with q | q
    · exact q.elim
    · exact k1 x (m2 x q)
  · rcases List.mem_cons.mp m with m | m
    · rw [m] at e; cases e
    · exact R.tmp c (List.mem_cons_of_mem _ m) j e
  · have n : b ≠ a := fun z => by
      subst z
      rcases h2 with ⟨n1, n2⟩ | ⟨φ, e⟩
      · rcases k b (k1 b (m1 b hG1)) with z | z
        · exact n1 z
        · exact n2 z
      · rw [ha, e] at h1; cases h1
    rw [upd_ne n]
    exact h1
end
section
variable {X : Cx} {f : Fm} {δ : Env} {e : Expr} {sts : List Stmt} {Ψ : Rs → Env → Prop} {Φ : Ph}
def tFrzB (t : TS) : TS := fun D σ H => ∃ d u, H d = some u ∧ Mut (some u) ∧ ∀ od, t D σ (upd H d (.frz od u))
theorem pb_frz {t : TS} (h : PSs X sts t) : PSs X sts (tFrzB t) := by
  refine ⟨fun pins s σ H D I ⟨d, u, hd, mu, q⟩ => ?_⟩
  obtain ⟨od, I3⟩ := I.lock hd mu
  exact h.run pins s σ _ D I3 (q od)
/-- a list in a slot, frozen ahead of a block -/
theorem db_frz {i : Nat} {c : D} {π : List Nat} {xs : List D} (hi : δ[i]? = some (some c)) (hd : dAt c π = some (.lst xs)) (im : ∀ x ∈ xs, Imm x) (h : DB X f (δ.set i (some (dSet c π (.fz xs)))) sts Φ) : DB X f δ sts Φ :=
  DB.of (pb_frz h.h) fun E σ H ⟨T, R, n, r, b, c⟩ => by
    obtain ⟨v, ev, R1⟩ := R.out hi
    obtain ⟨a, vs, ha, g⟩ := R1.frz hd im
    refine ⟨a, .lst vs, ha, True.intro, fun od => ⟨T, ?_, n, r, b, c⟩⟩
    have R2 := (g od).back (i := i) ev
    rw [List.set_set] at R2
    exact R2
end
end Dl

namespace Dl
open PySem L2
section
variable {δ : Env} {rs : List Rs} {ds : List D} {d : D}
end
end Dl
namespace Dl
open PySem L2
section
variable {X : Cx} {f : Fm} {δ : Env} {st : Stmt} {Φ : Ph}
theorem ps_frz {t : TS} (h : PS X st t) : PS X st (tFrzB t) := by
  refine ⟨fun pins s σ H D I ⟨d, u, hd, mu, q⟩ => ?_⟩
  obtain ⟨od, I3⟩ := I.lock hd mu
  exact h.run pins s σ _ D I3 (q od)
/-- a list in a slot, frozen ahead of a statement -/
theorem ds_frz {i : Nat} {c : D} {π : List Nat} {xs : List D} (hi : δ[i]? = some (some c)) (hd : dAt c π = some (.lst xs)) (im : ∀ x ∈ xs, Imm x) (h : DS X f (δ.set i (some (dSet c π (.fz xs)))) st Φ) : DS X f δ st Φ :=
  DS.of (ps_frz h.h) fun E σ H ⟨T, R, n, r, b, c⟩ => by
    obtain ⟨v, ev, R1⟩ := R.out hi
    obtain ⟨a, vs, ha, g⟩ := R1.frz hd im
    refine ⟨a, .lst vs, ha, True.intro, fun od => ⟨T, ?_, n, r, b, c⟩⟩
    have R2 := (g od).back (i := i) ev
    rw [List.set_set] at R2
    exact R2
end
end Dl
namespace Dl
open PySem L2
section
variable {K : PySem.W.Frag} {δ : Env} {ra rb rc : Rs} {rs : List Rs} {nm : Str} {d : D} {l u : Option Int}
theorem g_GetS {P : Rs → Env → Prop} (h : GetS δ ra rb P) : GetS δ ra rb P := h
theorem g_StoS {P : Env → Prop} (h : StoS δ ra rb d P) : StoS δ ra rb d P := h
theorem g_AddS {P : D → Prop} (h : AddS δ ra rb P) : AddS δ ra rb P := h
theorem g_LenQ {P : D → Prop} (h : LenQ δ rs P) : LenQ δ rs P := h
theorem g_SlS {P : D → Prop} (h : SlS δ ra l u P) : SlS δ ra l u P := h
theorem g_IsN {P : Bool → Prop} (h : IsN δ ra rb P) : IsN δ ra rb P := h
theorem g_SeqS {P : List Rs → List D → Prop} (h : SeqS δ ra P) : SeqS δ ra P := h
theorem g_EqS {P : Bool → Prop} (h : EqS δ ra rb P) : EqS δ ra rb P := h
/-- a block at the environment's plain form -/
theorem db_consN {X : Cx} {f : Fm} {δ δ' : Env} {st : Stmt} {sts : List Stmt} {Φ : Ph} (e : δ = δ') (h : DS X f δ' st { Φ with nx := fun δ1 => DB X f δ1 sts Φ }) : DB X f δ (st :: sts) Φ := by
  subst e
  exact db_cons h
end
end Dl
namespace Dl
/-! a goal marked as left -/
structure Left (p : Prop) : Prop where
  h : p
end Dl
namespace Dl
open PySem L2
section
variable {X : Cx} {f : Fm} {δ : Env} {st : Stmt} {Φ : Ph}
theorem ds_frz0 {i : Nat} {xs : List D} (hi : δ[i]? = some (some (.lst xs))) (im : ∀ x ∈ xs, Imm x) (h : DS X f (δ.set i (some (.fz xs))) st Φ) : DS X f δ st Φ := ds_frz (π := []) hi rfl im h
end
end Dl

namespace Dl
open PySem L2
/-! ### what is raised -/
/-- an exception: its class, its own fields (none: a class without own making) -/
structure XD where
  C : Addr
  fs : Option (List (Str × V))
def XOk (H : Hp) (cls : Value) (d : Option Addr) (x : XD) : Prop := cls = .ref x.C ∧ ((x.fs = none ∧ d = none) ∨ ∃ dd fs, x.fs = some fs ∧ d = some dd ∧ H dd = some (.xd fs))
abbrev PreX := List D → (D → List D → Prop) → (XD → List D → Prop) → Prop
def spX (K : PySem.W.Frag) (n : Nat) (P : PreX) : Sp := fun vs H Q E => ∃ ds F, vs.length = n ∧ ds.length = n ∧ Sep (OwnE K H) (vs.zip ds) F ∧ ∃ Φ Ξ, P ds Φ Ξ ∧ (∀ r ds' v H', Φ r ds' → Post K H F vs ds' v r H' → Q v H') ∧
  ∀ x ds' cls d H', Ξ x ds' → Post K H F vs ds' .non .non H' → XOk H' cls d x → E cls d H'
structure GFnX (P : Program) (w : World) (K : PySem.W.Frag) (mg : Str → Option Value) (base : Heap) (k : Nat) (x : Str) (n : Nat) (pre : PreX) : Prop where
  ex : ∃ (f : Addr) (fd : FuncData) (ps : List Str), mg x = some (.ref f) ∧ PySem.W.keepIn K (.ref f) = true ∧ Binds K fd ps [] ∧ FnOk P w K mg base (L2.CX P w) k f fd ps (spX K n pre)
section
variable {K : PySem.W.Frag} {f : Fm} {H H' : Hp} {σ : L2.St} {δ δ' δ1 : Env} {T T' : List (V × Rs)} {v w : V} {d e : D} {i j : Nat} {r : Rs}
theorem Rp.nil (R : Rp K f H σ δ T) : Rp K f H σ δ [] := by
  obtain ⟨F, s, k⟩ := R.own
  obtain ⟨F1, F2, s1, s2, dj, k1, k2⟩ := s.split
  exact ⟨R.len, R.has, ⟨F2, s2, fun x q => k x (k2 x q)⟩, (fun c m => nomatch m), R.fr, R.tx, R.pin⟩
end
section
variable {X : Cx} {f : Fm} {δ : Env} {e a b c : Expr} {es rest : List Expr} {st : Stmt} {sts : List Stmt} {pos p2 : Pos} {Ψ : Rs → Env → Prop} {Θ : Bool → Env → Prop} {Λ : List Rs → Env → Prop} {Φ : Ph}
variable {N : List Str} {sc : Scope} {Ξ : XD → Env → Prop}
end
section
variable {P : Program} {w : World} {K : PySem.W.Frag} {mg : Str → Option Value} {base : Heap}
end
end Dl

namespace Dl
open PySem L2
/-! ### exceptions with their own making -/
section
variable {X : Cx} {o e : Expr} {es : List Expr} {to te : TE} {ta : TA} {p p' p1 p2 pos : Pos}
end
/-- the promise of __init__(self, a, b): .. self.f1 = a, self.f2 = b -/
def spI2 (C : Addr) (f1 f2 : Str) : Sp := fun vs H Q _ => ∃ a v1 v2, vs = [.ref a, v1, v2] ∧ H a = some (exo a C none) ∧ ∀ dx, H dx = none → dx ≠ a → Q .non (upd (upd (upd H dx (exd dx [(f1, v1)])) a (exo a C (some dx))) dx (exd dx [(f2, v2), (f1, v1)]))
section
variable {X : Cx} {f : Fm} {δ : Env} {e : Expr} {es : List Expr} {pos p2 : Pos} {Φ : Ph} {N : List Str} {sc : Scope} {Ξ : XD → Env → Prop}
end
section
variable {P : Program} {w : World} {K : PySem.W.Frag} {mg : Str → Option Value} {base : Heap}
/-- what the top tells of the class over ValueError -/
structure BaseC (K : PySem.W.Frag) (mg : Str → Option Value) (x : Str) (DC : Addr) : Prop where
  g : mg x = some (.ref DC)
  r : PySem.W.readsIn K DC (.type "type") = true
  s : PySem.W.specialIn K (.ref DC) "__getattribute__" = some (some (.builtin "type.__getattribute__"))
  v : PySem.W.findCls K (.ref DC) (.type "type") "__init__" = some (.val (.builtin "ValueError.__init__"))
end
end Dl

namespace Dl
open PySem L2
/-! ### lambdas: a frame in the midst of a def -/
/-- what stood in the heap at the start tells of no other tables -/
def NoTab (f : Fm) : Prop := ∀ a ps, f.H0 a = some (.tbl ps) → f.F0 a ∨ ∃ p ∈ f.tb, p.1 = a
def known (δ : Env) : List Nat := (List.range δ.length).filter fun i => (δ[i]?.join).isSome
section
variable {K : PySem.W.Frag} {f : Fm} {H H1 H' : Hp} {σ σ' : L2.St} {δ δ' : Env} {T cs : List (V × Rs)} {F2 : Fp}
end
section
variable {X : Cx} {f : Fm} {δ : Env} {Ψ : Rs → Env → Prop} {N : List Str} {sc : Scope}
end
end Dl

/-! what a teller asks of what it caught -/
namespace L2
open PySem PySem.Spec PyProof.Rows
theorem eqU_count {y : V} : ∀ {ys : List V} {us : List Value}, Vals ys us → ys.all flatV = true → us.countP (eqU y) = ys.countP fun z => eqV z y
  | _, _, .nil, _ => rfl
  | x :: xs, u :: us, .cons r t, f => by
    rw [List.all_cons, Bool.and_eq_true] at f
    rw [List.countP_cons, List.countP_cons, eqU_count t f.2, eqU_of r f.1]
end L2

namespace Dl
open PySem L2
/-! ### the teller of the laws: what it makes of the program's refusals -/
/-- the eight classes -/
structure Kinds where
  c : Fin 8 → Addr
  base : Addr
def tellNames : List Str := ["BadProgram", "BadLaying", "BadFuel", "BadGoes", "BadPaper", "TooMany", "Over", "BadText"]
/-- what is told of an exception -/
inductive ToldC (k : Kinds) : XD → D → Prop
  | program {fs : List (Str × V)} {r w : V} {dr dw : D} : fs.lookup ("row" : Str) = some r → fs.lookup ("why" : Str) = some w → leaf dr = some r → leaf dw = some w → ToldC k ⟨k.c 0, some fs⟩ (.tk [.str "program", dr, dw])
  | laying {fs : List (Str × V)} {r w : V} {dr dw : D} : fs.lookup ("why" : Str) = some r → fs.lookup ("at" : Str) = some w → leaf dr = some r → leaf dw = some w → ToldC k ⟨k.c 1, some fs⟩ (.tk [.str "laying", dr, dw])
  | paper {fs : List (Str × V)} {r : V} {dr : D} : fs.lookup ("at" : Str) = some r → leaf dr = some r → ToldC k ⟨k.c 4, some fs⟩ (.tk [.str "paper", dr])
  | text {fs : List (Str × V)} {r : V} {dr : D} : fs.lookup ("line" : Str) = some r → leaf dr = some r → ToldC k ⟨k.c 7, some fs⟩ (.tk [.str "text", dr])
  | fuel {o : Option (List (Str × V))} : ToldC k ⟨k.c 2, o⟩ (.tk [.str "fuel"])
  | goes {o : Option (List (Str × V))} : ToldC k ⟨k.c 3, o⟩ (.tk [.str "goes"])
  | many {o : Option (List (Str × V))} : ToldC k ⟨k.c 5, o⟩ (.tk [.str "many"])
  | over {o : Option (List (Str × V))} : ToldC k ⟨k.c 6, o⟩ (.tk [.str "over"])
theorem ToldC.imm {k : Kinds} : ∀ x d, ToldC k x d → Imm d := fun x d t => by
  cases t <;> first
    | exact imm_tk (by intro d m; simp at m; subst m; exact imm_leaf (d := .str _) rfl)
    | exact imm_tk (by intro d m; simp at m; rcases m with rfl | rfl; exact imm_leaf (d := .str _) rfl; exact imm_leaf (by assumption))
    | exact imm_tk (by intro d m; simp at m; rcases m with rfl | rfl | rfl; exact imm_leaf (d := .str _) rfl; all_goals exact imm_leaf (by assumption))
/-- what the module says of the classes -/
structure TellC (K : PySem.W.Frag) (mg : Str → Option Value) (k : Kinds) : Prop where
  names : ∀ (i : Fin 8) (x : Str), tellNames[i.val]? = some x → mg x = some (.ref (k.c i))
  is : ∀ i j : Fin 8, PySem.W.kitOne K (.ref (k.c i)) (.ref (k.c j)) = some (decide (i = j))
  val : ∀ i : Fin 8, PySem.W.kitOne K (.ref (k.c i)) (.type "ValueError") = some true
  exc : ∀ i : Fin 8, ExcC K (k.c i)
  xf : ∀ i : Fin 8, XfC K (k.c i)
  no : ∀ (i : Fin 8) (x : Str), x ∈ (["row", "why", "at", "line"] : List Str) → PySem.W.findIn K (.ref (k.c i)) x = some none
  ex : ∀ i : Fin 8, PySem.W.exmOne K (.ref (k.c i)) (.ref k.base) = some true
  gb : mg "DrumError" = some (.ref k.base)
  is0 : mg "isinstance" = none
  ve : mg "ValueError" = none
end Dl

namespace Dl
open PySem L2
/-! ### the law itself, with lambdas in it -/
/-- a def whose code object stands at c -/
structure FunC (K : PySem.W.Frag) (x qual : Str) (st : Stmt) (f : Addr) (fd : FuncData) (c : Addr) : Prop where
  ex : ∃ (oc : Value) (od : Option Addr) (kV doc pm : Value) (an : Option Addr) (ct : Value) (osl : Array (Option Value)),
    fd = PySem.W.fnOf x qual (defArgs st) (defBody st) (defScope st) .none kV doc pm an (.ref c) ct ∧ K.lookup f = some ⟨oc, od, .func fd, osl⟩ ∧ PySem.W.codeIn K (.ref c) qual = true
def lamQ (qual : Str) : Str := qual ++ ".<locals>." ++ "<lambda>"
def tabsOf (qual : Str) (cs : List (Addr × Addr)) : List (Addr × Str) := cs.map fun p => (p.2, lamQ qual)
/-- its promise: the script; the tables are empty -/
def spL (K : PySem.W.Frag) (cs : List (Addr × Addr)) (P : Pre) : Sp := fun vs H Q _ => ∃ (a : Addr) (ns : List Int), vs = [.ref a] ∧ SqL K H a (ns.map V.int) ∧ (∀ p ∈ cs, H p.2 = some (.tbl #[])) ∧
  ∃ Φ, P [.fz (ns.map .int)] Φ ∧ ∀ r ds' w H' F, Φ r ds' → OwnE K H' w r F → Q w H'
section
variable {P : Program} {w : World} {K : PySem.W.Frag} {mg : Str → Option Value} {base : Heap}
theorem okL {x qual : Str} {st : Stmt} {f c : Addr} {fd : FuncData} {N : List Str} {a : Str} {k : Nat} {pre : Pre} {cs : List (Addr × Addr)} (F : FunC K x qual st f fd c) (S : FnScope N [a] (defScope st)) (hps : 1 ≤ N.length)
    (hbody : ∀ (X : Cx) (f : Fm) (d : D) (Φ : D → List D → Prop), Bd X N (defScope st) → (∀ x, X.fn x = true) → Jn X P w K mg base → Room k X.A → X.env.code = .ref c → X.env.qual ++ "<lambda>" = lamQ qual → f.tb = tabsOf qual cs → NoTab f → f.pn = [] → pre [d] Φ →
      DB X f (startD N [d]) (defBody st) { nx := fun _ => False, rt := fun r δ => ∃ ds', Φ r ds' }) : FnOk P w K mg base CX0 (k + 1) f fd [a] (spL K cs pre) := by
  obtain ⟨oc, od, kV, doc, pm, an, ct, osl, rfl, lk, hcd⟩ := F.ex
  refine fn_of lk hcd S (fun vs H Q E ⟨v, ns, e, _⟩ => by rw [e]; rfl) fun A outer s H vs Q E hr hsp => ?_
  obtain ⟨sa, ns, rfl, sq, tabs, Φ, p, q⟩ := hsp
  have iz : ∀ x ∈ ns.map D.int, Imm x := fun x m => by
    obtain ⟨i, _, rfl⟩ := List.mem_map.mp m
    exact imm_int
  have zi : ∀ c ∈ (ns.map V.int).zip (ns.map D.int), OwnE K H c.1 c.2 fun _ => False := fun c m => by
    rw [List.zip_map'] at m
    obtain ⟨i, _, rfl⟩ := List.mem_map.mp m
    exact OwnE.int
  -- the script's data, and what may be changed
  have core : ∀ (d0 : D) (G : Fp), OwnE K H (.ref sa) d0 G → (∀ p ∈ cs, ¬ G p.2) → ∃ fm : Fm, Rp K fm H (L2.start N [.ref sa]) (startD N [d0]) [] ∧ fm.tb = tabsOf qual cs ∧ NoTab fm ∧ fm.pn = [] := fun d0 G ow hG => by
    have sp : Sep (OwnE K H) ([V.ref sa].zip [d0]) G := ⟨G, fun _ => False, ow, trivial, fun _ _ z => z, fun _ z => z, fun _ z => z.elim⟩
    have R0 := Rp.start (N := N) (pm := [false]) (vs := [.ref sa]) (ds := [d0]) rfl (by simpa using hps) rfl sp
    let fm : Fm := ⟨H, fun b => ((∃ ps, H b = some (.tbl ps)) ∧ ¬ ∃ p ∈ cs, p.2 = b) ∨ G b, [], fun _ => .non, tabsOf qual cs⟩
    refine ⟨fm, ?_, rfl, fun b ps h => ?_, rfl⟩
    · obtain ⟨F, s1, s2⟩ := R0.own
      refine ⟨R0.len, R0.has, ⟨F, s1, fun x z => ?_⟩, (fun c m => nomatch m), ⟨fun b u h _ _ => h, fun p m => ?_, fun p m => ?_⟩, Tx.refl H, fun i m => nomatch m⟩
      · rcases s2 x z with z | z
        · exact .inl (.inr z)
        · exact .inr z
      · obtain ⟨y, my, rfl⟩ := List.mem_map.mp m
        exact LamX.TabS.nil (tabs y my)
      · obtain ⟨y, my, rfl⟩ := List.mem_map.mp m
        refine ⟨fun z => ?_, ?_⟩
        · rcases z with z | z
          · exact z.2 ⟨y, my, rfl⟩
          · exact hG y my z
        · show H y.2 ≠ none
          rw [tabs y my]
          exact fun z => nomatch z
    · by_cases z : ∃ p ∈ cs, p.2 = b
      · obtain ⟨y, my, e⟩ := z
        exact .inr ⟨(y.2, lamQ qual), List.mem_map.mpr ⟨y, my, rfl⟩, e⟩
      · exact .inl (.inl ⟨⟨ps, h⟩, z⟩)
  have fin : ∀ (d0 : D) (fm : Fm), Rp K fm H (L2.start N [.ref sa]) (startD N [d0]) [] →
      DB (cxOf CX0 P w K mg base N qual (defScope st) f (.ref c) A outer s H E).nox fm (startD N [d0]) (defBody st) { nx := fun _ => False, rt := fun r δ => ∃ ds', Φ r ds' } → _ := fun d0 fm R h =>
    (⟨_, h.h.nox, [], R, fun _ _ _ z => z.elim, fun r δ' v' σ' H' ⟨ds', k⟩ R => by
      obtain ⟨F, o⟩ : ∃ F, OwnE K H' v' r F := by
        obtain ⟨F', s, _⟩ := R.own
        have s2 : Sep (OwnE K H') ((v', r) :: cells σ' δ') F' := s
        obtain ⟨F1, F2, h1, _⟩ := s2
        exact ⟨F1, h1⟩
      exact q r ds' v' H' F k o, fun _ _ _ z => z.elim, fun _ _ _ z => z.elim⟩ : ∃ t, PSs (cxOf CX0 P w K mg base N qual (defScope st) f (.ref c) A outer s H E) (defBody st) t ∧ t { nx := fun _ H' => Q .non H', rt := Q } (L2.start N [.ref sa]) H)
  have body := fun (fm : Fm) (e1 : fm.tb = tabsOf qual cs) (e2 : NoTab fm) (e3 : fm.pn = []) =>
    hbody (cxOf CX0 P w K mg base N qual (defScope st) f (.ref c) A outer s H E).nox fm (.fz (ns.map .int)) Φ ⟨rfl, rfl, rfl, S.nd, PassesOwn.never⟩ (fun _ => rfl) ⟨rfl, rfl, rfl, rfl, rfl⟩ hr rfl rfl e1 e2 e3 p
  by_cases hl : H sa = some (.lst (ns.map V.int))
  · have ow : OwnE K H (.ref sa) (.lst (ns.map .int)) (fun b => b = sa) := OwnE.node (F' := fun _ => False) hl (by simp [kids]) (Sep.freeAll zi) (fun _ z => z.elim) fun _ => ⟨rfl, fun z => z⟩
    obtain ⟨fm, R, e1, e2, e3⟩ := core _ _ ow fun p hp z => by
      have := tabs p hp
      rw [z, hl] at this
      cases this
    exact fin _ fm R (db_frz (i := 0) (π := []) rfl rfl iz (body fm e1 e2 e3))
  · have fz : Fzl K H sa (ns.map V.int) := by
      rcases sq with (h | h) | h
      · exact absurd h hl
      · exact .inl h
      · exact .inr h
    have ow : OwnE K H (.ref sa) (.fz (ns.map .int)) (fun _ => False) := OwnE.node (F' := fun _ => False) fz (by simp [kids]) (Sep.freeAll zi) (fun _ z => z) (fun z => nomatch z)
    obtain ⟨fm, R, e1, e2, e3⟩ := core _ _ ow fun p hp z => z
    exact fin _ fm R (body fm e1 e2 e3)
end
end Dl

namespace Dl
open PySem L2
section
variable {X : Cx} {f : Fm} {δ : Env} {e : Expr} {pos : Pos} {Ψ : Rs → Env → Prop}
/-! ### pop() -/
inductive Pop0S (δ : Env) : Rs → (D → Env → Prop) → Prop
  | s {j : Nat} {ds : List D} {d : D} {P : D → Env → Prop} : δ[j]? = some (some (.lst ds)) → ds.getLast? = some d → Imm d → P d (δ.set j (some (.lst ds.dropLast))) → Pop0S δ (.s j) P
end
end Dl

namespace Dl
open PySem L2
/-! ### a promise that may raise, where it does not -/
section
variable {P : Program} {w : World} {K : PySem.W.Frag} {mg : Str → Option Value} {base : Heap}
theorem FnOk.plainX {k n : Nat} {f : Addr} {fd : FuncData} {ps : List Str} {pre : Pre} {preX : PreX} (F : FnOk P w K mg base (L2.CX P w) k f fd ps (spX K n preX)) (h : ∀ ds Φ, pre ds Φ → preX ds Φ (fun _ _ => False)) : FnOk P w K mg base CX0 k f fd ps (spD K n pre) := by
  have conv : ∀ vs H Q E, spD K n pre vs H Q E → spX K n preX vs H Q fun _ _ _ => False := fun vs H Q E ⟨ds, F0, h1, h2, sp, Φ, p, q⟩ =>
    ⟨ds, F0, h1, h2, sp, Φ, fun _ _ => False, h _ _ p, q, fun _ _ _ _ _ z => z.elim⟩
  refine ⟨fun vs H Q E z => F.len _ _ _ _ (conv _ _ _ _ z), fun A outer s H args us vs Q E hr e0 hb hv z => ?_⟩
  refine codeAny_mono (F.run A outer s H args us vs Q (fun _ _ _ => False) hr e0 hb hv (conv _ _ _ _ z)) fun r s' q => ?_
  cases r with
  | error e =>
    obtain ⟨_, _, _, _, _, _, _, _, _, _, _, _, z⟩ := q
    exact z.elim
  | ok fl => cases fl <;> exact q
theorem GFnX.plain {k n : Nat} {x : Str} {pre : Pre} {preX : PreX} (G : GFnX P w K mg base k x n preX) (h : ∀ ds Φ, pre ds Φ → preX ds Φ (fun _ _ => False)) : GFn P w K mg base k x n pre := by
  obtain ⟨f, fd, ps, h1, h2, h3, F⟩ := G.ex
  exact ⟨f, fd, ps, h1, h2, h3, FnOk.plainX F h⟩
end
section
variable {X : Cx} {f : Fm} {δ : Env} {Ψ : Rs → Env → Prop}
end
end Dl

namespace Dl
open PySem L2
/-! ### what is told, compared with a tuple that is written -/
section
variable {δ : Env} {ra rb : Rs} {P : Bool → Prop} {n m : Nat} {xs ys : List D}
end
section
variable {X : Cx} {f : Fm} {δ : Env} {e : Expr} {Ψ : Rs → Env → Prop}
end
end Dl

namespace Dl
open PySem L2
/-! ### the end: refusals, the law with lambdas -/
section
variable {w : World} {K : PySem.W.Frag} {h : Heap} {mg : Str → Option Value}
/-- a class of the module without own making, to be raised -/
structure Exc0 (K : PySem.W.Frag) (mg : Str → Option Value) (x : Str) (C : Addr) : Prop where
  ex : ∃ (Bb newId initId : String) (bmB : List Value), ExcBaseFacts Bb newId initId bmB ∧ PySem.W.excIn K C bmB newId = true
  g : mg x = some (.ref C)
  k : PySem.W.keepIn K (.ref C) = true
  r1 : PySem.W.subIn K (.ref C) (.type "BaseException") = some true
  r2 : PySem.W.typeIn K (.ref C) = some (.type "type")
/-- a def with its code object -/
def FnAtC (K : PySem.W.Frag) (x : Str) (st : Stmt) (c P : Addr) : Prop := ∃ f fd, PySem.W.nsIn K mainGlobals x = some (some (.ref f)) ∧ L2.Fun K x x st f fd ∧ FunC K x x st f fd c ∧ PySem.W.codeHdIn K c P = true ∧ K.lookup P = none
theorem fnAtC_mk {x : Str} {st : Stmt} {f c P : Addr} {od an : Option Addr} {sl : Array (Option Value)} {oc kV dc pm ct : Value} {oc2 : Value} {od2 : Option Addr} {vs : Array Value} {sl2 : Array (Option Value)} (a : PySem.W.nsIn K mainGlobals x = some (some (.ref f)))
    (l : K.lookup f = some ⟨oc, od, .func (PySem.W.fnOf x x (defArgs st) (defBody st) (defScope st) .none kV dc pm an (.ref c) ct), sl⟩) (cd : PySem.W.codeIn K (.ref c) x = true) (k : PySem.W.keepIn K (.ref f) = true)
    (lc : K.lookup c = some ⟨oc2, od2, .fields vs, sl2⟩) (v11 : vs[11]? = some (.ref P)) (hd : PySem.W.codeHdIn K c P = true) (lp : (K.lookup P).isNone = true) : FnAtC K x st c P :=
  ⟨f, _, a, fun_mk l cd k, ⟨_, _, _, _, _, _, _, _, rfl, l, cd⟩, hd, by cases e : K.lookup P with
    | none => rfl
    | some o => rw [e] at lp; cases lp⟩
end
end Dl

namespace L2
open PySem
section
variable {X : Cx} {o : Expr} {f : Str} {pos : Pos} {ta : TE}
end
end L2
namespace Dl
open PySem L2
section
variable {X : Cx} {f : Fm} {δ : Env} {e o tg : Expr} {pos p2 : Pos} {d : D} {Ψ : Env → Prop} {Pr : Program} {w : World} {K : PySem.W.Frag} {mg : Str → Option Value} {base : Heap} {N : List Str} {sc : Scope}
end
section
variable {X : Cx} {f : Fm} {δ : Env} {Ψ : Rs → Env → Prop} {N : List Str} {sc : Scope} {pos : Pos}
end
end Dl

namespace Dl
open PySem L2
section
variable {X : Cx} {f : Fm} {δ δ' : Env} {e : Expr} {st : Stmt} {sts : List Stmt} {Ψ : Rs → Env → Prop} {Φ : Ph}
theorem ds_wk (h : WkE δ δ') (k : DS X f δ' st Φ) : DS X f δ st Φ := DS.of k.h fun E σ H ⟨T, R, q⟩ => ⟨T, R.wk h, q⟩
end
section
variable {X : Cx} {f : Fm} {δ : Env} {Ψ : Rs → Env → Prop} {N : List Str} {sc : Scope} {pos : Pos}
end
section
variable {X : Cx} {N : List Str} {sc : Scope} {f : Fm} {tg elt : Expr} {ifs : List Expr} {Ψ : Rs → Env → Prop}
end
section
variable {P : Program} {w : World} {K : PySem.W.Frag} {mg : Str → Option Value} {base : Heap}
theorem GFn.imp {k n : Nat} {x : Str} {pre pre' : Pre} (G : GFn P w K mg base k x n pre) (h : ∀ ds Φ, pre' ds Φ → pre ds Φ) : GFn P w K mg base k x n pre' := by
  obtain ⟨f, fd, ps, h1, h2, h3, F⟩ := G.ex
  exact ⟨f, fd, ps, h1, h2, h3, F.imp fun vs H Q E ⟨ds, F0, a, b, sp, Φ, p, q⟩ => ⟨ds, F0, a, b, sp, Φ, h _ _ p, q⟩⟩
end
end Dl

namespace L2
open PySem PySem.Spec PyProof.Rows
end L2
namespace Dl
open PySem L2
/-! ### locking a dict that is a part -/
section
variable {K : PySem.W.Frag} {f : Fm} {H : Hp} {σ : L2.St} {δ : Env} {T : List (V × Rs)} {j : Nat} {kvs : List (List L2.Key × D)}
end
section
variable {X : Cx} {f : Fm} {δ : Env} {e tg iter a b : Expr} {es : List Expr} {st : Stmt} {pos : Pos} {Ψ : Rs → Env → Prop} {Θ : Bool → Env → Prop} {Φ : Ph} {k i : Nat} {π : List Nat} {w : V} {kvs : List (List L2.Key × D)}
/-! ### a tuple in a dict -/
inductive InT (δ : Env) : Rs → Rs → (Bool → Prop) → Prop
  | dT {ra rb : Rs} {kvs : List (List L2.Key × D)} {ks : List L2.Key} {P : Bool → Prop} : rsv δ ra = some (keysD ks) → rsv δ rb = some (.dT kvs) → P (valD kvs ks).isSome → InT δ ra rb P
  | lT {ra rb : Rs} {od : Obj} {ws : List (List L2.Key × V)} {kvs : List (List L2.Key × D)} {ks : List L2.Key} {P : Bool → Prop} : rsv δ ra = some (keysD ks) → rsv δ rb = some (.lkT od ws kvs) → P (valD kvs ks).isSome → InT δ ra rb P
  | dK {ra rb : Rs} {kvs : List (L2.Key × D)} {k : L2.Key} {P : Bool → Prop} : ra = .v (keyD k) → rsv δ rb = some (.dK kvs) → P (valD kvs k).isSome → InT δ ra rb P
theorem inT_ok {K : PySem.W.Frag} {H : Hp} {σ : L2.St} {T : List (V × Rs)} {ra rb : Rs} {x y : V} {P : Bool → Prop} (h : InT δ ra rb P) (R : Rp K f H σ δ ((y, rb) :: (x, ra) :: T)) : ∃ a o, y = .ref a ∧ DGetS K H a x o ∧ P o.isSome := by
  cases h with
  | @dT kvs ks _ h1 h2 p =>
    obtain ⟨F1, o1⟩ := R.res (v := x) (r := ra) (by simp) h1
    obtain ⟨F2, o2⟩ := R.res (v := y) (r := rb) (by simp) h2
    obtain ⟨b, rfl, hb⟩ := own_keysD o1
    obtain ⟨a, vs, rfl, ha, hl, _⟩ := own_dT o2
    refine ⟨a, _, rfl, .inr ⟨_, ks, b, .inl ha, rfl, hb, rfl⟩, ?_⟩
    rw [valD_isSome hl]
    exact p
  | @lT od ws kvs ks _ h1 h2 p =>
    obtain ⟨F1, o1⟩ := R.res (v := x) (r := ra) (by simp) h1
    obtain ⟨F2, o2⟩ := R.res (v := y) (r := rb) (by simp) h2
    obtain ⟨b, rfl, hb⟩ := own_keysD o1
    obtain ⟨a, vs, rfl, h3, h4, F', h5, h6, h7⟩ := o2.of_node rfl (fun _ _ q => nomatch q)
    obtain ⟨ha, ew⟩ := (show _ ∧ _ from h3)
    have hl : vs.length = kvs.length := by simpa [kids] using h4
    refine ⟨a, _, rfl, .inr ⟨_, ks, b, .inr ⟨od, ha⟩, rfl, hb, rfl⟩, ?_⟩
    rw [ew, valD_isSome hl]
    exact p
  | @dK kvs k _ h1 h2 p =>
    subst h1
    obtain rfl : x = kV k := R.vleaf (d := keyD k) (by simp) (leaf_keyD k)
    obtain ⟨F2, o2⟩ := R.res (v := y) (r := rb) (by simp) h2
    obtain ⟨a, vs, rfl, ha, hl, _⟩ := own_dK o2
    refine ⟨a, _, rfl, .inl ⟨_, k, .inl ha, rfl, rfl⟩, ?_⟩
    rw [valD_isSome hl]
    exact p
theorem cmp_inT (hr : Room k X.A) : CmpOk X f .In fun δ ra rb P => InT δ ra rb P :=
  ⟨_, op_inS (by have := hr.un; omega), fun δ ra rb P h H σ T x y Q R q => by
    obtain ⟨a, o, e, g, p⟩ := inT_ok h R
    exact ⟨a, o, e, g, q (.bl _) _ _ ⟨_, rfl, p⟩ (R.tail2.pushL rfl)⟩⟩
inductive InQ (δ : Env) : Rs → Rs → (Bool → Prop) → Prop
  | s {ra rb : Rs} {P : Bool → Prop} : InS δ ra rb P → InQ δ ra rb P
  | t {ra rb : Rs} {P : Bool → Prop} : InT δ ra rb P → InQ δ ra rb P
theorem cmpOk_or {op : CmpOp} {S S' : Env → Rs → Rs → (Bool → Prop) → Prop} {n : Bool → Bool} (h : CmpOk X f op fun δ ra rb P => S δ ra rb fun b => P (n b)) (h' : CmpOk X f op fun δ ra rb P => S' δ ra rb fun b => P (n b)) : CmpOk X f op fun δ ra rb P => S δ ra rb (fun b => P (n b)) ∨ S' δ ra rb fun b => P (n b) := by
  obtain ⟨r, o, g⟩ := h
  obtain ⟨r', o', g'⟩ := h'
  exact ⟨_, OpR.or o o', fun δ ra rb P q => q.elim (fun q => op2_l (g δ ra rb P q)) fun q => op2_r (g' δ ra rb P q)⟩
theorem cmpOk_imp {op : CmpOp} {S S' : Env → Rs → Rs → (Bool → Prop) → Prop} (h : CmpOk X f op S) (i : ∀ δ ra rb P, S' δ ra rb P → S δ ra rb P) : CmpOk X f op S' := by
  obtain ⟨r, o, g⟩ := h
  exact ⟨r, o, fun δ ra rb P q => g δ ra rb P (i _ _ _ _ q)⟩
theorem cmp_inQ (hr : Room k X.A) : CmpOk X f .In fun δ ra rb P => InQ δ ra rb P :=
  cmpOk_imp (cmpOk_or (n := fun b => b) (cmp_in hr) (cmp_inT hr)) fun δ ra rb P q => by
    cases q with
    | s q => exact .inl q
    | t q => exact .inr q
theorem de_inQ (hr : Room k X.A) (h : DE X f δ a fun ra δ1 => DE X f δ1 b fun rb δ2 => InQ δ2 ra rb fun t => Ψ (.v (.bl t)) δ2) (hm : behindInMarks .In b = false := by rfl) : DE X f δ (.Compare a [.In] [b] pos) Ψ := de_cmp (cmp_inQ hr) h hm
/-! ### list.count of data -/
inductive CntQ (δ : Env) : Rs → List Rs → (D → Prop) → Prop
  | s {ro : Rs} {rs : List Rs} {P : D → Prop} : CntS δ ro rs P → CntQ δ ro rs P
  | d {ro r : Rs} {ds : List D} {d : D} {n m : Nat} {P : D → Prop} : rsv δ ro = some (.lst ds) → rsv δ r = some d → Shp n d → Shp m (.lst ds) → n ≤ 64 → P (.int (ds.countP fun z => eqD z d : Nat)) → CntQ δ ro [r] P
end
end Dl

namespace Dl
open PySem L2
/-! ### try: .. except X: .. (no name) -/
section
variable {K : PySem.W.Frag} {f : Fm} {H : Hp} {σ : L2.St} {δ : Env} {T : List (V × D)}
end
section
variable {X : Cx} {f : Fm} {δ : Env} {Φ : Ph} {N : List Str} {sc : Scope} {Ξ : XD → Env → Prop}
end
/-! ### raise X(a), X with its own making -/
section
variable {X : Cx} {f : Fm} {δ : Env} {e : Expr} {es : List Expr} {pos p2 : Pos} {Φ : Ph} {N : List Str} {sc : Scope} {Ξ : XD → Env → Prop}
end
/-! ### the rule for a def, with what try asks of its frame -/
section
variable {P : Program} {w : World} {K : PySem.W.Frag} {mg : Str → Option Value} {base : Heap}
end
end Dl

namespace Dl
open PySem L2
/-! ### lambdas as data -/
/-- a lambda's words; d: its parameter with what it is by default -/
structure Lam where
  params : Arguments
  body : Expr
  scope : Scope
  qual : Str
  cl : List (Str × Addr)
  d : Option (Str × Int)
abbrev Lam.fd (L : Lam) (dV doc pm : Value) (c : Addr) (ctv : Value) : FuncData := PySem.W.kdv_fn "<lambda>" L.qual L.params (.expr L.body) L.scope L.cl dV doc pm (.ref c) ctv
def FnL (f : Addr) (L : Lam) (c : Addr) (dV : Value) : HO := .ext fun h => ∃ (od : Option Addr) (sl : Array (Option Value)) (doc pm ctv : Value), h.get? f = some (⟨.type "function", od, .func (L.fd dV doc pm c ctv), sl⟩ : Obj)
theorem fnL_at {P : Program} {w : World} {H : Hp} {h : Heap} {f c : Addr} {L : Lam} {dV : Value} (hok : HOk P w H h) (e : H f = some (FnL f L c dV)) : ∃ (od : Option Addr) (sl : Array (Option Value)) (doc pm ctv : Value), h.get? f = some (⟨.type "function", od, .func (L.fd dV doc pm c ctv), sl⟩ : Obj) := by
  obtain ⟨z, _, _⟩ := hok f _ e
  exact z
/-- what is tracked of it -/
inductive Lam.Q (L : Lam) : Addr → List (Addr × HO) → Prop
  | none {f c : Addr} : L.d = none → Lam.Q L f [(f, FnL f L c .none), (c, LamX.CodeO c L.qual)]
  | some {f c T : Addr} {x : Str} {i : Int} : L.d = some (x, i) → Lam.Q L f [(f, FnL f L c (.ref T)), (c, LamX.CodeO c L.qual), (T, .tup [.int i])]
def lamD (L : Lam) : D := .fn L.Q
/-- it stands at f -/
def LamAt (H : Hp) (L : Lam) (f : Addr) : Prop := ∃ l, L.Q f l ∧ ∀ p ∈ l, Stay p.2 ∧ H p.1 = some p.2
/-- all but the table at P stays -/
def ExtP (P : Addr) (H H' : Hp) : Prop := ∀ b o, H b = some o → b ≠ P → H' b = some o
theorem ExtP.refl {P : Addr} {H : Hp} : ExtP P H H := fun _ _ h _ => h
theorem ExtP.trans {P : Addr} {H H1 H2 : Hp} (a : ExtP P H H1) (b : ExtP P H1 H2) : ExtP P H H2 := fun c o h n => b c o (a c o h n) n
theorem ExtP.same {P : Addr} {H H' : Hp} (s : Same H H') : ExtP P H H' := fun b o h _ => s b o h
theorem imm_fn {Q : Addr → List (Addr × HO) → Prop} : Imm (.fn Q) := fun K H v F o => by
  obtain ⟨a, vs, rfl, hn, hl, F', s, _, _⟩ := o.of_node rfl (fun _ _ q => nomatch q)
  obtain rfl : vs = [] := List.length_eq_zero_iff.mp hl
  exact OwnE.node (vs := []) (F' := fun _ => False) hn rfl trivial (fun _ q => q) (fun q => nomatch q)
theorem LamAt.own {K : PySem.W.Frag} {H : Hp} {L : Lam} {f : Addr} {F : Fp} (h : LamAt H L f) : OwnE K H (.ref f) (lamD L) F :=
  OwnE.node (vs := []) (F' := fun _ => False) h rfl trivial (fun _ q => q.elim) (fun q => nomatch q)
theorem LamAt.of {K : PySem.W.Frag} {H : Hp} {L : Lam} {v : V} {F : Fp} (h : OwnE K H v (lamD L) F) : ∃ f, v = .ref f ∧ LamAt H L f := by
  obtain ⟨a, vs, e, hn, _⟩ := OwnE.of_node h rfl (fun _ _ q => nomatch q)
  exact ⟨a, e, hn⟩
theorem LamAt.same {H H' : Hp} {L : Lam} {f : Addr} (h : LamAt H L f) (s : Same H H') : LamAt H' L f := by
  obtain ⟨l, q, h⟩ := h
  exact ⟨l, q, fun p m => ⟨(h p m).1, s _ _ (h p m).2⟩⟩
section
variable {X : Cx} {pins : List (Addr × Obj)} {σ : L2.St} {H : Hp} {s : Shared}
theorem inv_fnL {L : Lam} {o : Obj} {t' : Nat} {doc pm ctv dV : Value} {c : Addr} (I : Inv X pins σ H s) (ho : o = { cls := .type "function", data := .func (L.fd dV doc pm c ctv) }) :
    Inv X pins σ (upd H s.heap.objs.size (FnL s.heap.objs.size L c dV)) { s with heap := s.heap.push o, toks := t' } := by
  subst ho
  refine I.laid (a := s.heap.objs.size) (fun b u e => Heap.get?_push_of_some _ e) (Nat.le_refl _) ?_
  have e : (s.heap.push ({ cls := .type "function", data := .func (L.fd dV doc pm c ctv) } : Obj)).get? s.heap.objs.size = some ({ cls := .type "function", data := .func (L.fd dV doc pm c ctv) } : Obj) := Heap.get?_push_size _ rfl
  exact ⟨⟨_, _, doc, pm, ctv, e⟩, ⟨_, e⟩, fun h1 h2 ⟨od, sl, d, p, t, z⟩ st => ⟨od, sl, d, p, t, st _ z⟩⟩
/-- the lambda's object is made, behind its defaults -/
theorem lam_tail {T : List (Addr × Str)} {c P : Addr} {L : Lam} {dV : Value} {pos : Pos} {firstLine : Nat} {E : Value → Shared → Prop} {Q : Value → Shared → Prop} (I : Inv X pins σ H s) (TB : LamX.TabB X.base X.mg c P) (hcode : X.env.code = .ref c)
    (hm : (P, L.qual) ∈ T) (hu : ∀ p ∈ T, p.1 = P → p.2 = L.qual) (hT : LamX.Tabs T H) (hcl : L.cl = cloFrom X.env.cells L.scope.names []) (hfree : ∀ y ∈ L.scope.names, y.2 = .free → ∃ c, X.env.cells.lookup y.1 = some c)
    (h : ∀ (f c' : Addr) (H1 : Hp) (s' : Shared), Inv X pins σ H1 s' → ExtP P H H1 → LamX.Tabs T H1 → H1 f = some (FnL f L c' dV) → H1 c' = some (LamX.CodeO c' L.qual) → Q (.ref f) s') :
    wpAny (model X.prog X.w) X.A (makeTail "<lambda>" L.qual L.params (.expr L.body) L.scope X.env dV .none none pos firstLine) Q E s := by
  obtain ⟨ps, hP, ht, ha⟩ := hT _ hm
  have bP : s.heap.BuiltinsAt X.mg P := TB.bm.keeps I.bk
  have hP' : s.heap.get? P = some { cls := .none, data := .fields ps } := I.hok P _ hP
  have hclo : closureFor L.scope X.env = pure L.cl := by rw [hcl]; exact closure_ok hfree
  cases hc : codeAmong pos ps.toList with
  | none =>
    refine PySem.W.kdv_makeTail (mg := X.mg) (c := c) (P := P) (ps := ps) hclo I.ok.glob (I.mod.glob.keeps I.bk) hcode (TB.code.keeps I.bk) hP' ht hc TB.gP bP fun c' ctv doc h' tk hx hge hlt hrec htb => ?_
    obtain ⟨c2, oc, vs, t, e2, hoc, hd, hv⟩ := hrec
    cases e2
    have nC : H c' = none := I.hok.fresh hge
    have I1 := LamX.inv_table (t' := tk) (more := #[rawInt pos.line, rawInt pos.col, .ref c']) (h' := h') I hP (fun b o hb e => hx b o hb e) htb hge ⟨oc, vs, t, hoc, hd, hv⟩
    have hE : ExtP P H (upd (upd H P (.tbl (ps ++ #[rawInt pos.line, rawInt pos.col, .ref c']))) c' (LamX.CodeO c' L.qual)) := fun b o e n => by
      rw [upd_ne (ne_of_none e nC), upd_ne n]
      exact e
    have eL : (ps ++ #[rawInt pos.line, rawInt pos.col, .ref c']).toList = ps.toList ++ [rawInt pos.line, rawInt pos.col, .ref c'] := by simp
    have codeP : ∀ c0, H c0 = some (LamX.CodeO c0 L.qual) → c0 ≠ P := fun c0 e z => by
      rw [z, hP] at e
      exact absurd (Option.some.inj e).symm (LamX.codeO_ne ps)
    have T1 : LamX.Tabs T (upd (upd H P (.tbl (ps ++ #[rawInt pos.line, rawInt pos.col, .ref c']))) c' (LamX.CodeO c' L.qual)) := fun p hp => by
      by_cases hb : p.1 = P
      · rw [hu p hp hb, hb]
        refine ⟨_, by rw [upd_ne (ne_of_none hP nC), upd_same], by rw [eL]; exact PySem.TriplesOk_snoc _ _ _ _ ht, fun p' cv hcv => ?_⟩
        rw [eL] at hcv
        rcases LamX.among_app _ ht hcv with z | z
        · obtain ⟨c0, e1, e2⟩ := ha p' cv z
          exact ⟨c0, e1, hE _ _ e2 (codeP c0 e2)⟩
        · exact ⟨c', z, upd_same⟩
      · obtain ⟨ps', a1, a2, a3⟩ := hT p hp
        refine ⟨ps', by rw [upd_ne (ne_of_none a1 nC), upd_ne hb]; exact a1, a2, fun p' cv hcv => ?_⟩
        obtain ⟨c0, e1, e2⟩ := a3 p' cv hcv
        refine ⟨c0, e1, hE _ _ e2 fun z => ?_⟩
        rw [z, hP] at e2
        exact absurd (Option.some.inj e2).symm (LamX.codeO_ne ps)
    have nF := I1.hok.fresh (Nat.le_refl _)
    have I2 := inv_fnL (L := L) (c := c') (dV := dV) (t' := tk) (doc := doc) (pm := (X.mg "__name__").getD .none) (ctv := ctv) I1 rfl
    refine h h'.objs.size c' _ _ I2 (fun b o e n => ?_) (T1.ext fun b o e => ?_) upd_same ?_
    · have e1 := hE b o e n
      exact (upd_ne (ne_of_none e1 nF)).trans e1
    · exact (upd_ne (ne_of_none e nF)).trans e
    · exact (upd_ne (Nat.ne_of_lt hlt)).trans upd_same
  | some cv =>
    obtain ⟨c', e, hco⟩ := ha pos cv hc
    subst e
    refine PySem.W.kdv_makeTailHit (mg := X.mg) (c := c) (P := P) (ps := ps) hclo I.ok.glob (I.mod.glob.keeps I.bk) hcode (TB.code.keeps I.bk) hP' ht hc bP fun ctv doc h' tk hx hsz => ?_
    have I1 : Inv X pins σ H { s with heap := h', toks := tk } := I.kept hx
    have nF : H h'.objs.size = none := I1.hok.fresh (Nat.le_refl _)
    have I2 := inv_fnL (L := L) (c := c') (dV := dV) (t' := tk) (doc := doc) (pm := (X.mg "__name__").getD .none) (ctv := ctv) I1 rfl
    refine h h'.objs.size c' _ _ I2 (fun b o e n => ?_) (hT.ext fun b o e => ?_) upd_same ?_
    · exact (upd_ne (ne_of_none e nF)).trans e
    · exact (upd_ne (ne_of_none e nF)).trans e
    · exact (upd_ne (ne_of_none hco nF)).trans hco
/-- the defaults' words -/
def DefOk (params : Arguments) (env : PySem.Env) : Option (Str × Int) → Prop
  | none => defaultsOf params env = ([], [])
  | some (_, i) => ∃ j p, params.defaults = [.Constant (.int i) j p] ∧ params.kw_defaults = []
theorem lam_make3 {T : List (Addr × Str)} {c P : Addr} {L : Lam} {pos : Pos} {E : Value → Shared → Prop} {Q : Value → Shared → Prop} (I : Inv X pins σ H s) (TB : LamX.TabB X.base X.mg c P) (hcode : X.env.code = .ref c)
    (hm : (P, L.qual) ∈ T) (hu : ∀ p ∈ T, p.1 = P → p.2 = L.qual) (hT : LamX.Tabs T H) (hq : L.qual = X.env.qual ++ "<lambda>") (hcl : L.cl = cloFrom X.env.cells L.scope.names []) (hfree : ∀ y ∈ L.scope.names, y.2 = .free → ∃ c, X.env.cells.lookup y.1 = some c) (hd : DefOk L.params X.env L.d)
    (h : ∀ (f : Addr) (H1 : Hp) (s' : Shared), Inv X pins σ H1 s' → ExtP P H H1 → LamX.Tabs T H1 → LamAt H1 L f → Q (.ref f) s') :
    wpAny (model X.prog X.w) X.A (eval (.Lambda L.params L.body L.scope pos) X.env) Q E s := by
  have nP : ∃ ps, H P = some (.tbl ps) := by
    obtain ⟨ps, hP, _⟩ := hT _ hm
    exact ⟨ps, hP⟩
  cases ed : L.d with
  | none =>
    rw [ed] at hd
    refine PySem.W.kla_eval hd ?_
    rw [← hq, makeFunction_eq]
    simp only [List.zip_nil_right, List.filterMap_nil, List.isEmpty_nil, if_true, pure_bind]
    refine lam_tail I TB hcode hm hu hT hcl hfree fun f c' H1 s' I1 e t1 h1 h2 => ?_
    refine h f H1 s' I1 e t1 ⟨_, .none (c := c') ed, fun p m => ?_⟩
    rcases List.mem_cons.mp m with rfl | m
    · exact ⟨.inr (.inl ⟨_, rfl⟩), h1⟩
    · rw [List.mem_singleton.mp m]
      exact ⟨.inr (.inl ⟨_, rfl⟩), h2⟩
  | some xi =>
    obtain ⟨x, i⟩ := xi
    rw [ed] at hd
    obtain ⟨j, p, hd1, hd2⟩ := hd
    refine PySem.W.kdv_lam (by rw [hd1]; rfl) hd2 ?_
    rw [hd1]
    refine PySem.W.kdv_all1 (thn ((pe_int (X := X) (i := i) (j := j) (pos := p)).run pins s σ H (fun v H' => v = .int i ∧ H' = H) I ⟨rfl, rfl⟩) fun u s1 ⟨v, H1, I1, r1, q1⟩ => PySem.W.kdv_all0 ?_)
    obtain ⟨ev, eH⟩ := q1
    subst ev
    rw [eH] at I1
    obtain ⟨tu, rfl⟩ := r1
    rw [← hq, makeFunction_eq]
    simp only [List.zip_nil_right, List.filterMap_nil, List.isEmpty_nil, List.isEmpty_cons, if_true, pure_bind, Bool.false_eq_true, if_false]
    refine wpAny_bind (wpAny_newTextTuple ?_)
    have nT : H s1.heap.objs.size = none := I1.hok.fresh (Nat.le_refl _)
    have I2 : Inv X pins σ (upd H s1.heap.objs.size (.tup [.int i])) { s1 with heap := s1.heap.push { cls := .type "tuple", data := .seq [Value.int i tu].toArray } } := by
      refine I1.laid (t' := s1.toks) (a := s1.heap.objs.size) (fun b u e => Heap.get?_push_of_some _ e) (Nat.le_refl _) ?_
      exact ⟨by show 1 ≤ sizeLine; rw [sizeLine_eq]; omega, [Value.int i tu], .cons ⟨_, rfl⟩ .nil, _, Heap.get?_push_size _ rfl, rfl, _, rfl⟩
    have x1 : Same H (upd H s1.heap.objs.size (.tup [.int i])) := same_new nT
    refine lam_tail I2 TB hcode hm hu (hT.ext x1) hcl hfree fun f c' H1 s' I3 e t1 h1 h2 => ?_
    refine h f H1 s' I3 ((ExtP.same x1).trans e) t1 ⟨_, .some (c := c') (T := s1.heap.objs.size) ed, fun p m => ?_⟩
    rcases List.mem_cons.mp m with rfl | m
    · exact ⟨.inr (.inl ⟨_, rfl⟩), h1⟩
    · rcases List.mem_cons.mp m with rfl | m
      · exact ⟨.inr (.inl ⟨_, rfl⟩), h2⟩
      · rw [List.mem_singleton.mp m]
        refine ⟨.inl ⟨_, rfl⟩, e _ _ upd_same fun z => ?_⟩
        obtain ⟨ps, hP⟩ := nP
        rw [← show s1.heap.objs.size = P from z, nT] at hP
        cases hP
end
end Dl

namespace Dl
open PySem L2
/-! ### a lambda called in a def that got it -/
def lamFr (scope : Scope) : List Str := (scope.names.filter fun y => decide (y.2 = .free)).map (·.1)
def lamJs (N : List Str) (scope : Scope) : List Nat := (lamFr scope).map fun y => N.idxOf y
/-- the lambda's names among the maker's -/
structure LamS2 (N : List Str) (scope : Scope) : Prop where
  kind : scope.kind = .function
  co : scope.isCoroutine = false
  gen : scope.isGenerator = false
  nocell : ∀ y ∈ scope.names, y.2 ≠ .cell
  own : ∀ y ∈ scope.names, y.2 = .local → y.1 ∉ N
  at_ : (lamJs N scope).map (fun j => N[j]?) = (lamFr scope).map some
/-- what a call without arguments binds -/
def LamBind (params : Arguments) (body : Expr) (scope : Scope) : Option (Str × Int) → Prop
  | none => ∀ (q : Str) (cl : List (Str × Addr)) (doc pm cd ct : Value), bindArgs (PySem.W.kdv_fn "<lambda>" q params (.expr body) scope cl .none doc pm cd ct) ⟨[], []⟩ = pure []
  | some (x, _) => scope.names.lookup x = some .local ∧ ∀ (T : Addr) (q : Str) (cl : List (Str × Addr)) (doc pm cd ct : Value), ∃ k, bindArgs (PySem.W.kdv_fn "<lambda>" q params (.expr body) scope cl (.ref T) doc pm cd ct) ⟨[], []⟩ = seqItems? (.ref T) >>= k ∧ ∀ u : Value, k (some #[u]) = pure [(x, u)]
section
variable {X : Cx} {pins : List (Addr × Obj)} {σ : L2.St} {H HZ : Hp} {s s1 : Shared}
end
section
variable {X : Cx}
end
end Dl

namespace Dl
open PySem L2
/-! ### lambdas, over the data -/
section
variable {K : PySem.W.Frag} {f : Fm} {H H1 H' : Hp} {σ σ' : L2.St} {δ δ' : Env} {T cs : List (V × Rs)} {F2 : Fp}
theorem Rp.extP {P : Addr} (R : Rp K f H σ δ T) (e : ExtP P H H1) (hP : ∃ q, (P, q) ∈ f.tb) (t : LamX.Tabs f.tb H1) : Rp K f H1 σ δ T := by
  obtain ⟨F, s, k⟩ := R.own
  obtain ⟨q0, mP⟩ := hP
  obtain ⟨ps, hP, _⟩ := R.fr.t _ mP
  have hP : H P = some (.tbl ps) := hP
  have ne : ∀ a u, H a = some u → (∀ ps, u ≠ .tbl ps) → a ≠ P := fun a u h n z => by
    rw [z, hP] at h
    exact n ps (Option.some.inj h).symm
  have tx : Tx H H1 := fun a => ⟨fun xs h => e a _ h (ne a _ h fun ps z => nomatch z), fun o u h => e a _ h (ne a _ h fun ps z => nomatch z), fun φ h => e a _ h (ne a _ h fun ps z => nomatch z)⟩
  have s' : Sep (OwnE K H1) (T.map tc ++ cells σ δ) (fun x => F x ∧ OwnK (H x)) := s.trimK.monoR fun v d G _ g r => r.frame tx fun x z => by
    have z2 := (g x z).2
    cases q : H x with
    | none => rw [q] at z2; exact z2.elim
    | some u => exact e x u q (ne x u q fun ps w => by rw [q, w] at z2; exact z2)
  refine ⟨R.len, R.has, ⟨_, s', fun x q => k x q.1⟩, R.tmp, ⟨fun a u h1 h2 h3 => e a u (R.fr.k a u h1 h2 h3) fun z => h3 _ mP z.symm, t, R.fr.o⟩, R.tx.trans tx, R.pin⟩
end
/-- a lambda of these words, made in X -/
structure LamOf (X : Cx) (params : Arguments) (body : Expr) (scope : Scope) (d : Option (Str × Int)) (L : Lam) : Prop where
  lp : L.params = params
  lb : L.body = body
  ls : L.scope = scope
  ld : L.d = d
  lc : L.cl = cloFrom X.env.cells scope.names []
/-- its captured names are the maker's -/
def LamFree (sc scope : Scope) : Prop := ∀ y ∈ scope.names, y.2 = .free → sc.names.lookup y.1 = some .cell ∨ sc.names.lookup y.1 = some .free
def lamFreeB (sc scope : Scope) : Bool := scope.names.all fun y => !decide (y.2 = .free) || (decide (sc.names.lookup y.1 = some .cell) || decide (sc.names.lookup y.1 = some .free))
theorem lamFree_by {sc scope : Scope} (h : lamFreeB sc scope = true) : LamFree sc scope := fun y hy e => by
  have := List.all_eq_true.mp h y hy
  simp only [Bool.or_eq_true, Bool.not_eq_true', decide_eq_true_eq, decide_eq_false_iff_not] at this
  rcases this with z | z
  · exact absurd e z
  · exact z
section
variable {X : Cx} {f : Fm} {δ : Env} {Ψ : Rs → Env → Prop} {N : List Str} {sc : Scope}
end
end Dl

namespace Dl
open PySem L2
/-! ### defs that make lambdas; the law with tables of its own and of others -/
/-- the promise of a law: the script; the tables are empty -/
def spL2 (K : PySem.W.Frag) (tbs : List (Addr × Str)) (P : Pre) : Sp := fun vs H Q _ => ∃ (a : Addr) (ns : List Int), vs = [.ref a] ∧ SqL K H a (ns.map V.int) ∧ (∀ p ∈ tbs, H p.1 = some (.tbl #[])) ∧
  ∃ Φ, P [.fz (ns.map .int)] Φ ∧ ∀ r ds' w H' F, Φ r ds' → OwnE K H' w r F → Q w H'
section
variable {P : Program} {w : World} {K : PySem.W.Frag} {mg : Str → Option Value} {base : Heap}
theorem okL2 {x qual : Str} {st : Stmt} {f c : Addr} {fd : FuncData} {N : List Str} {a : Str} {k : Nat} {pre : Pre} (tbs : List (Addr × Str)) (F : FunC K x qual st f fd c) (S : FnScope N [a] (defScope st)) (hps : 1 ≤ N.length)
    (hbody : ∀ (X : Cx) (f : Fm) (d : D) (Φ : D → List D → Prop), Bd X N (defScope st) → (∀ x, X.fn x = true) → Jn X P w K mg base → Room k X.A → X.env.code = .ref c → X.env.qual ++ "<lambda>" = lamQ qual → f.tb = tbs → f.pn = [] → pre [d] Φ →
      DB X f (startD N [d]) (defBody st) { nx := fun _ => False, rt := fun r δ => ∃ ds', Φ r ds' }) : FnOk P w K mg base CX0 (k + 1) f fd [a] (spL2 K tbs pre) := by
  obtain ⟨oc, od, kV, doc, pm, an, ct, osl, rfl, lk, hcd⟩ := F.ex
  refine fn_of lk hcd S (fun vs H Q E ⟨v, ns, e, _⟩ => by rw [e]; rfl) fun A outer s H vs Q E hr hsp => ?_
  obtain ⟨sa, ns, rfl, sq, tabs, Φ, p, q⟩ := hsp
  have iz : ∀ x ∈ ns.map D.int, Imm x := fun x m => by
    obtain ⟨i, _, rfl⟩ := List.mem_map.mp m
    exact imm_int
  have zi : ∀ c ∈ (ns.map V.int).zip (ns.map D.int), OwnE K H c.1 c.2 fun _ => False := fun c m => by
    rw [List.zip_map'] at m
    obtain ⟨i, _, rfl⟩ := List.mem_map.mp m
    exact OwnE.int
  have core : ∀ (d0 : D) (G : Fp), OwnE K H (.ref sa) d0 G → (∀ p ∈ tbs, ¬ G p.1) → ∃ fm : Fm, Rp K fm H (L2.start N [.ref sa]) (startD N [d0]) [] ∧ fm.tb = tbs ∧ fm.pn = [] := fun d0 G ow hG => by
    have sp : Sep (OwnE K H) ([V.ref sa].zip [d0]) G := ⟨G, fun _ => False, ow, trivial, fun _ _ z => z, fun _ z => z, fun _ z => z.elim⟩
    have R0 := Rp.start (N := N) (pm := [false]) (vs := [.ref sa]) (ds := [d0]) rfl (by simpa using hps) rfl sp
    refine ⟨⟨H, G, [], fun _ => .non, tbs⟩, ?_, rfl, rfl⟩
    obtain ⟨F, s1, s2⟩ := R0.own
    refine ⟨R0.len, R0.has, ⟨F, s1, fun x z => s2 x z⟩, (fun c m => nomatch m), ⟨fun b u h _ _ => h, fun p m => LamX.TabS.nil (tabs p m), fun p m => ⟨hG p m, ?_⟩⟩, Tx.refl H, fun i m => nomatch m⟩
    show H p.1 ≠ none
    rw [tabs p m]
    exact fun z => nomatch z
  have fin : ∀ (d0 : D) (fm : Fm), Rp K fm H (L2.start N [.ref sa]) (startD N [d0]) [] →
      DB (cxOf CX0 P w K mg base N qual (defScope st) f (.ref c) A outer s H E).nox fm (startD N [d0]) (defBody st) { nx := fun _ => False, rt := fun r δ => ∃ ds', Φ r ds' } → _ := fun d0 fm R h =>
    (⟨_, h.h.nox, [], R, fun _ _ _ z => z.elim, fun r δ' v' σ' H' ⟨ds', k⟩ R => by
      obtain ⟨F, o⟩ : ∃ F, OwnE K H' v' r F := by
        obtain ⟨F', s, _⟩ := R.own
        have s2 : Sep (OwnE K H') ((v', r) :: cells σ' δ') F' := s
        obtain ⟨F1, F2, h1, _⟩ := s2
        exact ⟨F1, h1⟩
      exact q r ds' v' H' F k o, fun _ _ _ z => z.elim, fun _ _ _ z => z.elim⟩ : ∃ t, PSs (cxOf CX0 P w K mg base N qual (defScope st) f (.ref c) A outer s H E) (defBody st) t ∧ t { nx := fun _ H' => Q .non H', rt := Q } (L2.start N [.ref sa]) H)
  have body := fun (fm : Fm) (e1 : fm.tb = tbs) (e3 : fm.pn = []) =>
    hbody (cxOf CX0 P w K mg base N qual (defScope st) f (.ref c) A outer s H E).nox fm (.fz (ns.map .int)) Φ ⟨rfl, rfl, rfl, S.nd, PassesOwn.never⟩ (fun _ => rfl) ⟨rfl, rfl, rfl, rfl, rfl⟩ hr rfl rfl e1 e3 p
  by_cases hl : H sa = some (.lst (ns.map V.int))
  · have ow : OwnE K H (.ref sa) (.lst (ns.map .int)) (fun b => b = sa) := OwnE.node (F' := fun _ => False) hl (by simp [kids]) (Sep.freeAll zi) (fun _ z => z.elim) fun _ => ⟨rfl, fun z => z⟩
    obtain ⟨fm, R, e1, e3⟩ := core _ _ ow fun p hp z => by
      have := tabs p hp
      rw [z, hl] at this
      cases this
    exact fin _ fm R (db_frz (i := 0) (π := []) rfl rfl iz (body fm e1 e3))
  · have fz : Fzl K H sa (ns.map V.int) := by
      rcases sq with (h | h) | h
      · exact absurd h hl
      · exact .inl h
      · exact .inr h
    have ow : OwnE K H (.ref sa) (.fz (ns.map .int)) (fun _ => False) := OwnE.node (F' := fun _ => False) fz (by simp [kids]) (Sep.freeAll zi) (fun _ z => z) (fun z => nomatch z)
    obtain ⟨fm, R, e1, e3⟩ := core _ _ ow fun p hp z => z
    exact fin _ fm R (body fm e1 e3)
theorem spL2_law {H : Hp} {tbs : List (Addr × Str)} {a : Addr} {ns : List Int} (hl : ns.length ≤ 63) (hT : ∀ p ∈ tbs, H p.1 = some (.tbl #[])) (hs : SqL K H a (ns.map V.int)) (E : XK) : spL2 K tbs preLaw [.ref a] H (fun v _ => v = .bl true) E :=
  ⟨a, ns, rfl, hs, hT, fun r _ => r = .bl true, ⟨ns, rfl, hl, rfl⟩, fun r ds' v H' F e o => by rw [e] at o; exact o.of_bl⟩
end
/-! a promise of a def that makes lambdas: tables may grow -/
structure PostT (K : PySem.W.Frag) (tbs : List (Addr × Str)) (H : Hp) (F : Fp) (vs : List V) (ds' : List D) (v : V) (r : D) (H' : Hp) : Prop where
  len : ds'.length = vs.length
  own : ∃ F', Sep (OwnE K H') ((v, r) :: vs.zip ds') F' ∧ ∀ x, F' x → F x ∨ H x = none
  fr : ∀ a u, H a = some u → ¬ F a → (∀ p ∈ tbs, p.1 ≠ a) → H' a = some u
  tx : Tx H H'
  tab : LamX.Tabs tbs H'
def spT (K : PySem.W.Frag) (tbs : List (Addr × Str)) (n : Nat) (P : Pre) : Sp := fun vs H Q _ => ∃ ds F, vs.length = n ∧ ds.length = n ∧ Sep (OwnE K H) (vs.zip ds) F ∧ LamX.Tabs tbs H ∧ (∀ p ∈ tbs, ¬ F p.1) ∧ ∃ Φ, P ds Φ ∧ ∀ r ds' v H', Φ r ds' → PostT K tbs H F vs ds' v r H' → Q v H'
structure GFnT (P : Program) (w : World) (K : PySem.W.Frag) (mg : Str → Option Value) (base : Heap) (tbs : List (Addr × Str)) (k : Nat) (x : Str) (n : Nat) (pre : Pre) : Prop where
  ex : ∃ (f : Addr) (fd : FuncData) (ps : List Str), mg x = some (.ref f) ∧ PySem.W.keepIn K (.ref f) = true ∧ Binds K fd ps [] ∧ FnOk P w K mg base CX0 k f fd ps (spT K tbs n pre)
section
variable {K : PySem.W.Frag} {f : Fm} {H H' : Hp} {σ : L2.St} {δ δ' δ1 : Env} {T T' : List (V × Rs)} {v w : V} {d e : D} {i j : Nat} {r : Rs}
theorem Rp.calledT {tbs : List (Addr × Str)} {rs : List Rs} {vs : List V} {ds : List D} {n : Nat} {P : Pre} {Φ : D → List D → Prop} {Q : VK} {E : XK} (R : Rp K f H σ δ (vs.zip rs ++ T)) (hl : vs.length = rs.length) (hn : rs.length = n) (h : rsvs δ rs = some ds) (nd : (slots rs).Nodup) (ht : ∀ p ∈ tbs, p ∈ f.tb) (hf : ∀ p ∈ f.tb, ∀ p' ∈ tbs, p.1 = p'.1 → p = p') (p : P ds Φ)
    (q : ∀ r ds' v H', Φ r ds' → Rp K f H' σ (backs rs ds' δ) ((v, .v r) :: T) → Q v H') : spT K tbs n P vs H Q E := by
  obtain ⟨R1, pl⟩ := Rp.outs R hl h nd
  obtain ⟨F, s0, k0⟩ := R1.own
  have s := s0.trimK
  have k : ∀ x, (F x ∧ OwnK (H x)) → f.F0 x ∨ f.H0 x = none := fun x q => k0 x q.1
  rw [List.map_append, List.append_assoc] at s
  obtain ⟨F1, F2, s1, s2, dj, k1, k2⟩ := s.split
  have hds := rsvs_len h
  have em : ∀ (vs : List V) (ds : List D), (vs.zip (ds.map Rs.v)).map tc = vs.zip ds := zip_tc
  rw [em] at s1
  have ntb : ∀ p ∈ f.tb, ∀ x, OwnK (H x) → p.1 ≠ x := fun p m x z e => by
    obtain ⟨ps, h1, _⟩ := R1.fr.t p m
    rw [← e, h1] at z
    exact z
  refine ⟨ds, F1, by omega, by omega, s1, fun p m => R1.fr.t p (ht p m), fun p m z => ntb p (ht p m) _ (k1 _ z).2 rfl, Φ, p, fun r ds' v H' hp po => q r ds' v H' hp ?_⟩
  obtain ⟨F', t1, t2⟩ := po.own
  have hl2 := po.len
  have s2' : Sep (OwnE K H') (T.map tc ++ cells σ (holes rs vs δ)) (fun x => F2 x ∧ H x ≠ none) := s2.trim.monoR fun v d G _ g r => r.frame po.tx fun x z => by
    obtain ⟨z1, z2⟩ := g x z
    cases e : H x with
    | none => exact absurd e z2
    | some u => exact po.fr x u e (fun y => dj x y z1) fun p m => ntb p (ht p m) x (k2 x z1).2
  have fin : Rp K f H' σ (holes rs vs δ) ((v, .v r) :: (vs.zip (ds'.map Rs.v) ++ T)) := by
    refine ⟨R1.len, R1.has, ⟨fun x => F' x ∨ (F2 x ∧ H x ≠ none), ?_, fun x z => ?_⟩, fun c m j e => ?_, ⟨fun a u h1 h2 h3 => ?_, fun p m => ?_, R1.fr.o⟩, R1.tx.trans po.tx, R1.pin⟩
    · have := Sep.append t1 s2' fun x z y => by
        rcases t2 x z with t | t
        · exact dj x t y.1
        · exact y.2 t
      show Sep (OwnE K H') ((v, r) :: ((vs.zip (ds'.map Rs.v) ++ T).map tc ++ cells σ (holes rs vs δ))) _
      rw [List.map_append, em, List.append_assoc]
      exact this
    · rcases z with z | z
      · rcases t2 x z with t | t
        · exact k x (k1 x t)
        · exact R1.free0 t
      · exact k x (k2 x z.1)
    · rcases List.mem_cons.mp m with m | m
      · rw [m] at e; cases e
      · rcases List.mem_append.mp m with m | m
        · obtain ⟨v1, r1⟩ := c
          have := (List.of_mem_zip m).2
          obtain ⟨x, _, ex⟩ := List.mem_map.mp this
          cases ex
          cases e
        · exact R1.tmp c (List.mem_append_right _ m) j e
    · refine po.fr a u (R1.fr.k a u h1 h2 h3) (fun z => ?_) fun p m => h3 p (ht p m)
      rcases k a (k1 a z) with y | y
      · exact h2 y
      · rw [h1] at y; cases y
    · by_cases hp : ∃ p' ∈ tbs, p.1 = p'.1
      · obtain ⟨p', m', e⟩ := hp
        rw [hf p m p' m' e]
        exact po.tab p' m'
      · obtain ⟨ps, a1, a2, a3⟩ := R1.fr.t p m
        refine ⟨ps, po.fr _ _ a1 (fun z => ntb p m _ (k1 _ z).2 rfl) (fun p' m' e => hp ⟨p', m', e.symm⟩), a2, fun pos cv hc => ?_⟩
        obtain ⟨c0, e1, e2⟩ := a3 pos cv hc
        exact ⟨c0, e1, (po.tx c0).2.2 _ e2⟩
  exact Rp.ins (rs := rs) (fin.perm List.perm_middle.symm) hl (by omega) nd pl
end
section
variable {X : Cx} {f : Fm} {δ : Env} {e : Expr} {es : List Expr} {pos : Pos} {Ψ : Rs → Env → Prop} {N : List Str} {sc : Scope}
/-- f(e, ..) of the module, f makes lambdas -/
theorem de_callT {Pr : Program} {w : World} {K : PySem.W.Frag} {mg : Str → Option Value} {base : Heap} {tbs : List (Addr × Str)} {k n : Nat} {x : Str} {p : Pos} {P : Pre} (B : Bd X N sc) (J : Jn X Pr w K mg base) (G : GFnT Pr w K mg base tbs k x n P) (hr : Room k X.A) (hg : Gls sc x) (ht : ∀ p ∈ tbs, p ∈ f.tb) (hf : ∀ p ∈ f.tb, ∀ p' ∈ tbs, p.1 = p'.1 → p = p')
    (h : DA X f δ (e :: es) fun rs δ1 => ∃ ds, rsvs δ1 rs = some ds ∧ rs.length = n ∧ (slots rs).Nodup ∧ P ds fun r ds' => Ψ (.v r) (backs rs ds' δ1))
    (hdb : (x == ("__debug__" : Str)) = false := by first | exact PlN.d (by with_reducible assumption) | decide) (he : starEach (e :: es) X.env = (false, eval e X.env) :: starEach es X.env := by rfl) (hpl : (backTo pos (starEach es X.env)).any (·.1) = false := by rfl) : DE X f δ (.Call (.Name x p) (e :: es) [] pos) Ψ := by
  obtain ⟨rfl, rfl, rfl, rfl, rfl⟩ := J
  obtain ⟨fa, fd, ps, hm, hk, hb, F⟩ := G.ex
  refine DE.of (pe_call F hr (B.glob hg) hm hk hb .nil pass0 h.h hdb he hpl) fun σ H Q ⟨T, R, q⟩ => ⟨T, R, fun rs δ1 vs H1 ⟨ds, e1, e2, e3, e4⟩ hl R1 => ?_⟩
  show spT X.K tbs n P (vs ++ []) H1 Q E0
  rw [List.append_nil]
  exact R1.calledT hl e2 e1 e3 ht hf e4 fun r ds' v H' k R2 => q _ _ _ _ k R2
end
section
variable {P : Program} {w : World} {K : PySem.W.Frag} {mg : Str → Option Value} {base : Heap}
/-- the rule for a def that makes lambdas -/
theorem okT {x qual : Str} {st : Stmt} {f c : Addr} {fd : FuncData} {N ps : List Str} {k : Nat} {pre : Pre} (pm : List Bool) (tbs : List (Addr × Str)) (F : FunC K x qual st f fd c) (S : FnScope N ps (defScope st)) (hpm : pm.length = ps.length) (hps : ps.length ≤ N.length)
    (him : ∀ ds Φ, ds.length = ps.length → pre ds Φ → ImmAt pm ds)
    (hbody : ∀ (X : Cx) (f : Fm) (ds : List D) (Φ : D → List D → Prop), Bd X N (defScope st) → (∀ x, X.fn x = true) → Jn X P w K mg base → Room k X.A → X.env.code = .ref c → X.env.qual ++ "<lambda>" = lamQ qual → f.tb = tbs → f.pn = pnOf pm → ds.length = ps.length → pre ds Φ →
      DB X f (startD N ds) (defBody st) { nx := fun δ => ∃ ds', fin pm ds δ = some ds' ∧ Φ .non ds', rt := fun r δ => ∃ ds', fin pm ds δ = some ds' ∧ Φ r ds' }) : FnOk P w K mg base CX0 (k + 1) f fd ps (spT K tbs ps.length pre) := by
  obtain ⟨oc, od, kV, doc, pmv, an, ct, osl, rfl, lk, hcd⟩ := F.ex
  refine fn_of lk hcd S (fun vs H Q E ⟨ds, F, h, _⟩ => h) fun A outer s H vs Q E hr hsp => ?_
  obtain ⟨ds, F0, hl, hd, sp, tabs, htF, Φ, p, q⟩ := hsp
  have R0 := Rp.start (N := N) (pm := pm) (vs := vs) (ds := ds) (by omega) (by omega) (by omega) sp
  have R : Rp K ⟨H, F0, pnOf pm, fun i => vs.getD i .non, tbs⟩ H (L2.start N vs) (startD N ds) [] := by
    obtain ⟨F, s1, s2⟩ := R0.own
    refine ⟨R0.len, R0.has, ⟨F, s1, s2⟩, (fun c m => nomatch m), ⟨fun b u h _ _ => h, tabs, fun p m => ⟨htF p m, ?_⟩⟩, Tx.refl H, R0.pin⟩
    show H p.1 ≠ none
    obtain ⟨ps, h1, _⟩ := tabs p m
    rw [h1]
    exact fun z => nomatch z
  have post : ∀ {r : D} {ds' : List D} {v : V} {σ' : L2.St} {δ' : Env} {H' : Hp}, fin pm ds δ' = some ds' → Rp K ⟨H, F0, pnOf pm, fun i => vs.getD i .non, tbs⟩ H' σ' δ' [(v, .v r)] → PostT K tbs H F0 vs ds' v r H' := fun {r ds' v σ' δ' H'} e R => by
    obtain ⟨F', s, kk⟩ := R.own
    have s2 : Sep (OwnE K H') ((v, r) :: cells σ' δ') F' := s
    refine ⟨?_, ⟨F', ?_, kk⟩, fun a u h n1 n2 => R.fr.k a u h n1 n2, R.tx, R.fr.t⟩
    · exact (fin_sep (fun d i v F o => imm_tx R.tx i o) e (by omega) (him ds Φ hd p) (fun i a => R.pin i (mem_pnOf.mpr a)) R.len sp s2.tail).1
    · exact s2.under fun G g => (fin_sep (fun d i v F o => imm_tx R.tx i o) e (by omega) (him ds Φ hd p) (fun i a => R.pin i (mem_pnOf.mpr a)) R.len sp g).2
  have h := hbody (cxOf CX0 P w K mg base N qual (defScope st) f (.ref c) A outer s H E).nox ⟨H, F0, pnOf pm, fun i => vs.getD i .non, tbs⟩ ds Φ ⟨rfl, rfl, rfl, S.nd, PassesOwn.never⟩ (fun _ => rfl) ⟨rfl, rfl, rfl, rfl, rfl⟩ hr rfl rfl rfl rfl hd p
  exact ⟨_, h.h.nox, [], R, fun δ' σ' H' ⟨ds', e, k⟩ R => q .non ds' .non H' k (post e (R.pushL (d := .non) (v := .non) rfl)), fun r δ' v σ' H' ⟨ds', e, k⟩ R => q r ds' v H' k (post e R), fun _ _ _ z => z.elim, fun _ _ _ z => z.elim⟩
theorem FnAtC.gT {h : Heap} {tbs : List (Addr × Str)} {k n : Nat} {x : Str} {st : Stmt} {c PT : Addr} {ps : List Str} {pre : Pre} (F : FnAtC K x st c PT) (X : K.In h) (G : h.Ns mainGlobals mg) (hb : ∀ f fd, L2.Fun K x x st f fd → Binds K fd ps []) (hn : ps.length = n)
    (ok : ∀ f fd, L2.Fun K x x st f fd → FunC K x x st f fd c → FnOk P w K mg base CX0 k f fd ps (spT K tbs n pre)) : GFnT P w K mg base tbs k x n pre := by
  obtain ⟨f, fd, a, F, FC, _, _⟩ := F
  exact ⟨f, fd, ps, PySem.W.mg_of X G a, F.kp, hb f fd F, ok f fd F FC⟩
end
end Dl

namespace Dl
open PySem L2
/-! ### sorted(xs, key=lambda c: c[0]), the first items pairs of ints -/
/-- a lambda c: c[0] -/
structure KeyLam (params : Arguments) (body : Expr) (scope : Scope) (x : Str) : Prop where
  bd : ∃ p1 j p2 pos, body = .Subscript (.Name x p1) (.Constant (.int 0) j p2) pos
  kind : scope.kind = .function
  co : scope.isCoroutine = false
  gen : scope.isGenerator = false
  nocell : ∀ y ∈ scope.names, y.2 ≠ .cell
  loc : scope.names.lookup x = some .local
  bind : ∀ (q : Str) (cl : List (Str × Addr)) (doc pm cd ct u : Value), bindArgs (PySem.W.kdv_fn "<lambda>" q params (.expr body) scope cl .none doc pm cd ct) ⟨[u], []⟩ = pure [(x, u)]
  db : (x == ("__debug__" : Str)) = false
def leP2 (p q : V × (Int × Int)) : Bool := decide (p.2.1 < q.2.1 ∨ (p.2.1 = q.2.1 ∧ p.2.2 ≤ q.2.2))
/-- what the items say -/
def IsCell2 (K : PySem.W.Frag) (H : Hp) (p : V × (Int × Int)) : Prop := ∃ (t q : Addr) (ys : List V), p.1 = .ref t ∧ SqT K H t (.ref q :: ys) ∧ SqT K H q [.int p.2.1, .int p.2.2]
def rSortLam (K : PySem.W.Frag) (L : Lam) : List V → List V → Hp → VK → Prop := fun vs zs H Q => ∃ (a fa : Addr) (ps : List (V × (Int × Int))), vs = [.ref a] ∧ zs = [.ref fa] ∧ LamAt H L fa ∧ SqL K H a (ps.map (·.1)) ∧ (∀ p ∈ ps, IsCell2 K H p) ∧
  ∀ p', H p' = none → Q (.ref p') (upd H p' (.lst ((ps.mergeSort leP2).map (·.1))))
theorem each_of_vals : ∀ {ps : List (V × (Int × Int))} {us : List Value}, Vals (ps.map (·.1)) us → PySem.W.EachIs (fun v (p : V × (Int × Int)) => RelV p.1 v) us ps
  | [], _, .nil => .nil
  | _ :: _, _, .cons r t => .cons r (each_of_vals t)
theorem vals_of_each : ∀ {ps : List (V × (Int × Int))} {us : List Value}, PySem.W.EachIs (fun v (p : V × (Int × Int)) => RelV p.1 v) us ps → Vals (ps.map (·.1)) us
  | [], _, .nil => .nil
  | _ :: _, _, .cons r t => .cons r (vals_of_each t)
section
variable {X : Cx}
theorem cr_sortedLam {L : Lam} {x : Str} (hL : KeyLam L.params L.body L.scope x) (hd : L.d = none) (hr : Room 1 X.A) : CallRK X (.builtin "sorted") [Str.ofString "key"] (rSortLam X.K L) := by
  intro pins s σ H vs zs us ws Q I r rz h
  obtain ⟨a, fa, ps, rfl, rfl, la, hs, hc, q⟩ := h
  obtain rfl := Vals.ref1 r
  obtain ⟨w1, rfl, e1⟩ := vals1 rz
  obtain rfl : w1 = Value.ref fa := e1
  obtain ⟨its, rv, hl, hz⟩ := I.list hs
  have hz' : ps.length ≤ sizeLine := by rw [List.length_map] at hz; exact hz
  obtain ⟨c', hf, hcO⟩ : ∃ c', H fa = some (FnL fa L c' .none) ∧ H c' = some (LamX.CodeO c' L.qual) := by
    obtain ⟨l, hQ, hl⟩ := la
    cases hQ with
    | @none c e => exact ⟨c, (hl _ List.mem_cons_self).2, (hl _ (List.mem_cons_of_mem _ List.mem_cons_self)).2⟩
    | some e => rw [hd] at e; cases e
  obtain ⟨p1, j, p2, bpos, hbody⟩ := hL.bd
  show wpAny _ _ (call (.builtin "sorted") [.ref a] [(Str.ofString "key", .ref fa)]) _ _ _
  refine PySem.W.sorted_key_data (b := false) (R := fun v (p : V × (Int × Int)) => RelV p.1 v) (fun p : V × (Int × Int) => .tuple [.int p.2.1, .int p.2.2]) hl.isList (each_of_vals rv) (.of fun _ _ => by simp [PySem.W.alike, PySem.W.alikeAll]) (.tuples fun _ => ⟨_, _, rfl⟩) hz' (fun p _ => ?_) (PyProof.Rows.ksk_s1 _ _) (fun _ => PyProof.Rows.ksk_l1 _ _) (fun _ => PyProof.Rows.ksk_t1 _ _)
    (fun v p rp mp h tk kp => ?_) fun out c h' tk kp fr hD hol eo => ?_
  · have hd : (PyData.tuple [.int p.2.1, .int p.2.2]).depth = 1 := by simp [PyData.depth, PyData.depthAll]
    have := hr.un
    omega
  · -- the key of an item
    obtain ⟨t, q2, ys, ep, ht, hq2⟩ := hc p mp
    rw [ep] at rp
    obtain rfl : v = Value.ref t := rp
    have I1 : L2.Inv X pins σ H { s with heap := h, toks := tk } := I.kept kp
    obtain ⟨od, sl, doc, pm, ctv, of1⟩ := fnL_at I1.hok hf
    obtain ⟨⟨oc, vs, tt, hoc, hdc, hvc⟩, _, _⟩ := I1.hok c' _ hcO
    obtain ⟨titems, tr, tpl, tz⟩ := I1.tuple ht
    obtain ⟨qitems, qr, qpl, qz⟩ := I1.tuple hq2
    obtain ⟨u0, us0, rfl, hu0⟩ : ∃ u0 us0, titems = u0 :: us0 ∧ RelV (.ref q2) u0 := by
      cases tr with
      | @cons _ u _ us ru _ => exact ⟨u, us, rfl, ru⟩
    obtain rfl : u0 = Value.ref q2 := hu0
    refine wpAny_call ?_
    refine PySem.W.kla_callFunE (A := X.A.in1.in1) (show X.A.depth < recursionLimit from by have := hr.dp; omega) of1 rfl hL.co hL.gen rfl ⟨c', oc, vs, tt, rfl, hoc, hdc, hvc⟩ ?_
    rw [hL.bind]
    refine wpAny_pure (wpAny_newFunctionEnv hL.nocell (fun y m => by rw [List.mem_singleton.mp m]; exact hL.loc) (fun h₁ hns hsb => ⟨I1.nolimit.fresh _ hsb, ?_⟩) hL.kind)
    have kp1 : ∀ b o, h.get? b = some o → h₁.get? b = some o := fun b o e => hsb.extBut b o (Nat.ne_of_lt (Heap.lt_size e)) (Heap.get?_push_of_some _ e)
    refine PySem.W.kla_codeExpr ?_
    rw [hbody]
    refine PyProof.Rows.Subscript_ (wpAny_Name (wpAny_loadName_local hL.kind hL.loc hns (v := .ref t) (by simp [List.lookup]) (wpAny_Constant_int ?_)) hL.db)
    have tpl1 : PyProof.Rows.IsTup h₁ t (Value.ref q2 :: us0).toArray := by
      obtain ⟨o, e1, e2, n, e3⟩ := tpl
      exact ⟨o, kp1 _ _ e1, e2, n, e3⟩
    refine PyProof.Rows.subscriptTail_builtinR (x := .ref q2) tpl1.typeIs PyProof.Rows.slot_tuple_getitem.lookup
      (PyProof.Rows.getItem_tuple (j := 0) (Q := fun r s' => r = Value.ref q2 ∧ _) tpl1 (by decide) (by decide) (by unfold seqIndex?; simp) (by simp) ⟨rfl, ?_⟩) rfl
    refine ⟨h₁, _, rfl, kp1, ?_⟩
    obtain ⟨o2, e1, e2, n2, e3⟩ := qpl
    cases qr with
    | cons r1 rr =>
      cases rr with
      | cons r2 rr =>
        cases rr
        obtain ⟨t1, rfl⟩ := r1
        obtain ⟨t2, rfl⟩ := r2
        exact Reads.tuple (as := []) (kp1 _ _ e1) e2 e3 (.cons (as := []) (bs := []) (.int _ _) (.cons (as := []) (bs := []) (.int _ _) .nil))
  · rw [PySem.W.dataLe_ii (β := V × (Int × Int)) (fun p => p.2.1) (fun p => p.2.2)] at eo
    have rv2 : Vals ((ps.mergeSort leP2).map (·.1)) out := vals_of_each eo
    have nP : H (s.heap.objs.size + 1) = none := I.hok.fresh (Nat.le_succ _)
    have hlen : ((ps.mergeSort leP2).map (·.1)).length ≤ sizeLine := by
      rw [List.length_map, List.length_mergeSort]
      exact hz'
    exact ⟨.ref _, upd H (s.heap.objs.size + 1) (.lst ((ps.mergeSort leP2).map (·.1))), I.laid (t' := tk) kp (Nat.le_succ _) ⟨hlen, out, c, rv2, hD⟩, rfl, q _ nP⟩
end
/-! over the data -/
/-- an item whose first part is a pair of ints -/
def KeyD (x : D) (k : Int × Int) : Prop := ∃ sp rest, (x = .tup (sp :: rest) ∨ x = .tk (sp :: rest)) ∧ (sp = .tup [.int k.1, .int k.2] ∨ sp = .tk [.int k.1, .int k.2])
def leKD {α : Type} (k : α → Int × Int) (p q : α) : Bool := decide ((k p).1 < (k q).1 ∨ ((k p).1 = (k q).1 ∧ (k p).2 ≤ (k q).2))
theorem own_tupk {K : PySem.W.Frag} {H : Hp} {v : V} {x : D} {ds : List D} {F : Fp} (o : OwnE K H v x F) (e : x = .tup ds ∨ x = .tk ds) : ∃ p vs, v = .ref p ∧ SqT K H p vs ∧ vs.length = ds.length ∧ ∃ F', Sep (OwnE K H) (vs.zip ds) F' := by
  rcases e with rfl | rfl
  · exact own_tup o
  · exact own_tup o.tkt
theorem keyD_cell {K : PySem.W.Frag} {H : Hp} {v : V} {x : D} {k : Int × Int} {F : Fp} (o : OwnE K H v x F) (h : KeyD x k) : IsCell2 K H (v, k) := by
  obtain ⟨sp, rest, e1, e2⟩ := h
  obtain ⟨t, vs, rfl, h1, h2, F', s⟩ := own_tupk o e1
  cases vs with
  | nil => cases h2
  | cons v0 vs =>
    obtain ⟨F1, F2, o1, _⟩ := (show Sep (OwnE K H) ((v0, sp) :: vs.zip rest) F' from s)
    obtain ⟨q, ws, rfl, g1, g2, F3, s3⟩ := own_tupk o1 e2
    refine ⟨t, q, vs, rfl, h1, ?_⟩
    match ws, g2, s3 with
    | [w1, w2], _, s3 =>
      obtain ⟨G1, G2, a1, ⟨G3, G4, a2, _⟩, _⟩ := s3
      rw [a1.of_int, a2.of_int] at g1
      exact g1
def tLamP (T : List (Addr × Str)) (P : Addr) (L : Lam) : TE := fun σ H Q => LamX.Tabs T H ∧ ∀ f H1, ExtP P H H1 → LamX.Tabs T H1 → LamAt H1 L f → Q (.ref f) H1
section
variable {X : Cx} {f : Fm} {δ : Env} {Ψ : Rs → Env → Prop} {N : List Str} {sc : Scope}
theorem pe_lamP {T : List (Addr × Str)} {c P : Addr} {L : Lam} {pos : Pos} (TB : LamX.TabB X.base X.mg c P) (hcode : X.env.code = .ref c) (hm : (P, L.qual) ∈ T) (hu : ∀ p ∈ T, p.1 = P → p.2 = L.qual) (hq : L.qual = X.env.qual ++ "<lambda>") (hcl : L.cl = cloFrom X.env.cells L.scope.names []) (hf : LamFree X.env.scope L.scope) (hd : DefOk L.params X.env L.d) :
    PE X (.Lambda L.params L.body L.scope pos) (tLamP T P L) := by
  refine ⟨fun pins s σ H Q I ⟨hT, h⟩ => ?_⟩
  have hfr : ∀ y ∈ L.scope.names, y.2 = .free → ∃ c, X.env.cells.lookup y.1 = some c := fun y hy e => by
    rcases hf y hy e with z | z
    · exact I.ok.has _ (.inl z)
    · exact I.ok.has _ (.inr z)
  exact lam_make3 I TB hcode hm hu hT hq hcl hfr hd fun fa H1 s' I1 e t1 la => ⟨.ref fa, H1, I1, rfl, h fa H1 e t1 la⟩
/-- sorted(e, key=lambda c: c[0]) -/
theorem de_sortKey {Pr : Program} {w : World} {K : PySem.W.Frag} {mg : Str → Option Value} {base : Heap} {c P : Addr} {e : Expr} {params : Arguments} {body : Expr} {scope : Scope} {x : Str} {p lpos kpos pos : Pos} (B : Bd X N sc) (J : Jn X Pr w K mg base) (hr : Room 1 X.A) (hg : Gls sc "sorted") (hms : mg "sorted" = none) (TB : LamX.TabB base mg c P) (hcode : X.env.code = .ref c)
    (hm : (P, X.env.qual ++ "<lambda>") ∈ f.tb) (hu : ∀ p ∈ f.tb, p.1 = P → p.2 = X.env.qual ++ "<lambda>") (hf : LamFree sc scope) (hdef : defaultsOf params X.env = ([], [])) (hL : KeyLam params body scope x)
    (h : DE X f δ e fun r δ1 => ∃ (xs : List D) (k : D → Int × Int), rsv δ1 r = some (.lst xs) ∧ (∀ x ∈ xs, Imm x ∧ KeyD x (k x)) ∧ Ψ (.v (.lst (xs.mergeSort (leKD k)))) δ1)
    (hst : starEach [e] X.env = (false, eval e X.env) :: starEach [] X.env := by rfl) (he : backTo pos (starEach [e] X.env) = (false, eval e X.env) :: backTo pos (starEach [] X.env) := by rfl) (hpl : (backTo pos (starEach [e] X.env)).any (·.1) = false := by rfl) :
    DE X f δ (.Call (.Name "sorted" p) [e] [⟨some "key", .Lambda params body scope lpos, kpos⟩] pos) Ψ := by
  obtain ⟨rfl, rfl, rfl, rfl, rfl⟩ := J
  have hgl := B.glob hg
  have hf' : LamFree X.env.scope scope := by rw [B.eS]; exact hf
  refine DE.of (pe_callBK (cr_sortedLam (L := ⟨params, body, scope, X.env.qual ++ "<lambda>", cloFrom X.env.cells scope.names [], none⟩) hL rfl hr) hgl hms (by rfl) (pa_cons h.h pa_nil (hs := hst)) (pk_cons (pe_lamP (L := ⟨params, body, scope, X.env.qual ++ "<lambda>", cloFrom X.env.cells scope.names [], none⟩) TB hcode hm hu rfl rfl hf' hdef) pk_nil) (he := he) (hpl := hpl)) fun σ H Q ⟨T, R, q⟩ => ⟨T, R, fun r δ1 v H1 ⟨xs, k, e1, e2, e3⟩ R1 => ?_⟩
  refine ⟨R1.fr.t, fun fa H2 eP t2 la => ?_⟩
  have R2 := R1.extP eP ⟨_, hm⟩ t2
  obtain ⟨F, o⟩ := R2.res (v := v) (r := r) (by simp) e1
  obtain ⟨a, vs, rfl, hl, l1, F1, s1⟩ := own_lst o
  have hown : ∀ p ∈ vs.zip xs, OwnE X.K H2 p.1 p.2 fun _ => False := sep_imm s1 fun x hx => (e2 x hx).1
  have m1 : (vs.zip xs).map (·.1) = vs := List.map_fst_zip (by omega)
  have m2 : (vs.zip xs).map (·.2) = xs := List.map_snd_zip (by omega)
  have z1 : ((vs.zip xs).map fun p => (p.1, k p.2)).map (·.1) = vs := by rw [List.map_map]; exact m1
  have srt1 : ((vs.zip xs).map fun p => (p.1, k p.2)).mergeSort leP2 = ((vs.zip xs).mergeSort (leKD fun p => k p.2)).map fun p => (p.1, k p.2) := (List.map_mergeSort (f := fun p : V × D => (p.1, k p.2)) (s := leP2) (r := leKD fun p => k p.2) fun a _ b _ => rfl).symm
  have srt2 : ((vs.zip xs).mergeSort (leKD fun p => k p.2)).map (·.2) = xs.mergeSort (leKD k) := by
    rw [List.map_mergeSort (f := fun p : V × D => p.2) (r := leKD fun p : V × D => k p.2) (s := leKD k) fun a _ b _ => rfl, m2]
  refine ⟨a, fa, (vs.zip xs).map fun p => (p.1, k p.2), rfl, rfl, la, by rw [z1]; exact SqL.of hl, fun p hp => ?_, fun p' hp' => ?_⟩
  · obtain ⟨y, my, rfl⟩ := List.mem_map.mp hp
    exact keyD_cell (hown y my) (e2 y.2 (zip_snd my)).2
  · rw [srt1, List.map_map]
    show Q (.ref p') (upd H2 p' (.lst (((vs.zip xs).mergeSort (leKD fun p => k p.2)).map (·.1))))
    rw [← srt2] at e3
    refine q _ _ _ _ e3 (R2.tail.newI hp' (show upd H2 p' _ p' = _ from upd_same) (by simp [kids]) fun c m => ?_)
    have m' : c ∈ (((vs.zip xs).mergeSort (leKD fun p => k p.2)).map (·.1)).zip (((vs.zip xs).mergeSort (leKD fun p => k p.2)).map (·.2)) := m
    rw [List.zip_map'] at m'
    obtain ⟨y, my, rfl⟩ := List.mem_map.mp m'
    exact hown y ((List.mergeSort_perm _ _).mem_iff.mp my)
end
end Dl

namespace Dl
open PySem PySem.Spec PyProof.Rows L2
/-! ### comprehensions whose block knows the def's state at its beginning -/
section
variable {Z : Cx} {elt tg : Expr} {ifs : List Expr} {g : TG} {tt : TT} {te : TE} {vs : List Nat} {J : It} {fp : List Addr} {it Dl : Addr} {tn : Nat → Heap → Prop} {W : Nat → Nat → Hp → Prop} {σ : L2.St}
end
section
variable {X : Cx}
end
/-! ### lambdas called in a comprehension's block -/
/-- a lambda whose cells are the def's -/
def ReachM (X : Cx) (N : List Str) (L : Lam) : Prop := ∀ (pins : List (Addr × Obj)) (σ : L2.St) (H : Hp) (s : Shared), L2.Inv X pins σ H s → (∀ y c, L.cl.lookup y = some c → X.env.cells.lookup y = some c) ∧ NdefX.CellsAt L.cl (lamFr L.scope) ((lamJs N L.scope).map (NdefX.slotAt σ)) s.heap H
section
variable {X : Cx} {f : Fm} {δ : Env} {e a b c tg iter elt : Expr} {ifs : List Expr} {pos : Pos} {Ψ : Rs → Env → Prop} {N : List Str} {sc scope : Scope}
end
end Dl

namespace Dl
open PySem L2
/-! ### an instance made, whose making may raise -/
section
variable {X : Cx} {CX : CXT} {k : Nat} {f C : Addr} {fd : FuncData} {ps : List Str} {sp : Sp} {E : L2.St → XK} {x : Str} {p pos : Pos} {e : Expr} {es : List Expr} {t : TA}
end
structure GMkX (P : Program) (w : World) (K : PySem.W.Frag) (mg : Str → Option Value) (base : Heap) (k : Nat) (x : Str) (C : Addr) (n : Nat) (pre : PreX) : Prop where
  ex : ∃ (f : Addr) (fd : FuncData) (ps : List Str), mg x = some (.ref C) ∧ Mk K C f ∧ Binds K fd ps [] ∧ FnOk P w K mg base (L2.CX P w) k f fd ps (spX K (n + 1) pre)
section
variable {X : Cx} {f : Fm} {δ : Env} {e : Expr} {es : List Expr} {pos : Pos} {Ψ : Rs → Env → Prop} {N : List Str} {sc : Scope} {Ξ : XD → Env → Prop}
end
/-! ### lambdas among the words of a walk -/
/-- what a def that makes lambdas knows of its tables -/
structure LamIn (X : Cx) (f : Fm) (base : Heap) (mg : Str → Option Value) : Prop where
  ex : ∃ c P, LamX.TabB base mg c P ∧ X.env.code = .ref c ∧ (P, X.env.qual ++ "<lambda>") ∈ f.tb ∧ ∀ p ∈ f.tb, p.1 = P → p.2 = X.env.qual ++ "<lambda>"
/-- a lambda made here, all that a call of it wants -/
structure LamM (X : Cx) (N : List Str) (params : Arguments) (body : Expr) (scope : Scope) (L : Lam) : Prop where
  lb : L.body = body
  ls : L.scope = scope
  s2 : LamS2 N L.scope
  re : ReachM X N L
  bd : LamBind L.params L.body L.scope L.d
section
variable {X : Cx} {f : Fm} {δ : Env} {e : Expr} {pos : Pos} {Ψ : Rs → Env → Prop} {N : List Str} {sc : Scope}
end
section
variable {X : Cx} {f : Fm} {δ : Env} {e : Expr} {Ψ : Rs → Env → Prop}
end
section
variable {Pr : Program} {w : World} {K : PySem.W.Frag} {h base : Heap} {mg : Str → Option Value}
end
end Dl

namespace Dl
open PySem L2 PySem.Spec PyProof.Rows
/-! ### a tuple times 0, 1 -/
section
variable {X : Cx} {f : Fm} {δ : Env} {a b : Expr} {pos : Pos} {Ψ : Rs → Env → Prop}
end
end Dl

namespace Dl
open PySem PySem.Spec PyProof.Rows L2 PySem.SeqAt
/-! ### abs -/
section
variable {X : Cx} {f : Fm} {δ : Env} {e : Expr} {pos : Pos} {Ψ : Rs → Env → Prop} {N : List Str} {sc : Scope} {Pr : Program} {w : World} {K : PySem.W.Frag} {mg : Str → Option Value} {base : Heap}
end
/-! ### a tuple times a number below 0 -/
section
variable {X : Cx} {f : Fm} {δ : Env} {a b : Expr} {pos : Pos} {Ψ : Rs → Env → Prop}
end
end Dl

namespace Dl
open PySem L2
end Dl

namespace Dl
open PySem L2
/-! ### a lambda called by its name where it was made -/
section
variable {X : Cx}
end
section
variable {X : Cx} {f : Fm} {δ : Env} {Ψ : Rs → Env → Prop} {N : List Str} {sc : Scope}
end
end Dl

namespace Dl
open PySem L2
/-! ### a list of things that may be changed, frozen itself; walked over -/
section
variable {K : PySem.W.Frag} {f : Fm} {H : Hp} {σ : L2.St} {δ : Env} {T : List (V × Rs)} {v : V} {d : D} {π : List Nat} {xs : List D}
end
section
variable {X : Cx} {f : Fm} {δ : Env} {sts : List Stmt} {Φ : Ph} {Ψ : Rs → Env → Prop} {pos : Pos} {N : List Str} {sc : Scope}
end
end Dl

namespace Dl
open PySem PySem.Spec PyProof.Rows L2
/-! ### name = [..], the block knowing the def's state at its beginning -/
section
variable {X : Cx}
end
section
variable {X : Cx} {f : Fm} {δ : Env} {tg iter elt : Expr} {ifs : List Expr} {pos : Pos} {Φ : Ph} {N : List Str} {sc scope : Scope}
end
end Dl

/-! ### tuples whose objects are known: they have no dict -/
namespace L2
open PySem PySem.Spec PyProof.Rows
def TupF (H : Hp) (a : Addr) (xs : List V) : Prop := ∃ o : Obj, o.dict = none ∧ H a = some (.frz o (.tup xs))
theorem TupF.sqt {K : PySem.W.Frag} {H : Hp} {a : Addr} {xs : List V} (h : TupF H a xs) : SqT K H a xs := by
  obtain ⟨o, _, e⟩ := h
  exact .inl (.inr ⟨o, e⟩)
section
variable {X : Cx}
/-- tuple(xs), xs a list -/
def rTupF (K : PySem.W.Frag) : List V → Hp → VK → Prop := fun xs H Q => ∃ (p : Addr) (ys : List V), xs = [.ref p] ∧ SqL K H p ys ∧ ∀ (l : Addr) (o : Obj), o.dict = none → H l = none → Q (.ref l) (upd H l (.frz o (.tup ys)))
theorem call_tupleF : CallR X (.type "tuple") (rTupF X.K) := by
  intro pins s σ H xs us Q I r h
  obtain ⟨p, ys, rfl, hq, q⟩ := h
  obtain ⟨u, rfl, rx⟩ := vals1 r
  cases rx
  obtain ⟨its, r', pl, hz⟩ := I.list hq
  have hlen := r'.length
  refine call_tuple_list pl.isList ?_ (by simp only [List.size_toArray] <;> omega)
  intro h' kp
  have J : Inv X pins σ H { s with heap := h' } := I.kept (t' := s.toks) kp
  have ok : ObjOk X.prog X.w H (h'.push { cls := .type "tuple", data := .seq its.toArray }) h'.objs.size (.frz { cls := .type "tuple", data := .seq its.toArray } (.tup ys)) :=
    ⟨Heap.get?_push_size _ rfl, hz, its, r', IsTup.new _ _⟩
  have J2 : Inv X pins σ (upd H h'.objs.size (.frz { cls := .type "tuple", data := .seq its.toArray } (.tup ys))) { s with heap := h'.push { cls := .type "tuple", data := .seq its.toArray } } := by
    refine J.laid (t' := s.toks) ?_ (Nat.le_refl _) ?_
    · intro b o e
      exact Heap.get?_push_of_some _ e
    · exact ⟨Heap.get?_push_size _ rfl, hz, its, r', IsTup.new _ _⟩
  exact ⟨.ref h'.objs.size, _, J2, rfl, q _ _ rfl (J.hok.fresh (Nat.le_refl _))⟩
/-- t[lo:hi] of such -/
def rSlF (K : PySem.W.Frag) : V → Option Int → Option Int → Hp → VK → Prop := fun x lo hi H Q => ∃ (a : Addr) (xs : List V), x = .ref a ∧ TupF H a xs ∧
  (HT.sIx xs.length 0 lo = 0 ∧ HT.sIx xs.length xs.length hi = xs.length → Q (.ref a) H) ∧ (¬ (HT.sIx xs.length 0 lo = 0 ∧ HT.sIx xs.length xs.length hi = xs.length) → ∀ (p : Addr) (o : Obj), o.dict = none → H p = none → Q (.ref p) (upd H p (.frz o (.tup (cutV xs lo hi)))))
theorem sl_tupF : SlR X (rSlF X.K) := by
  intro pins s σ H x v vl vu lo hi sl Q I rx hs pl pu h
  obtain ⟨a, xs, rfl, hF, q1, q2⟩ := h
  have hx : SqT X.K H a xs := hF.sqt
  by_cases hw : HT.sIx xs.length 0 lo = 0 ∧ HT.sIx xs.length xs.length hi = xs.length
  · exact sl_tupA pins s σ H _ v vl vu lo hi sl Q I rx hs pl pu ⟨a, xs, rfl, hx, q1, fun z => absurd hw z⟩
  · cases rx
    obtain ⟨its, r, ht, hz⟩ := I.tuple hx
    have len : its.toArray.size = xs.length := by rw [List.size_toArray, r.length]
    refine ⟨"tuple", _, PyProof.Rows.slot_tuple_getitem.lookup, ht.typeIs, HT.getItem_tuple_cut ht hs pl pu (by rw [len]; exact hw) ?_ (by rw [len]; exact hz)⟩
    rw [len]
    have J2 := I.laid (t' := s.toks) (o := .frz { cls := .type "tuple", data := .seq ((its.drop (HT.sIx xs.length 0 lo)).take (HT.sIx xs.length xs.length hi - HT.sIx xs.length 0 lo)).toArray } (.tup (cutV xs lo hi)))
      (h' := s.heap.push { cls := .type "tuple", data := .seq ((its.drop (HT.sIx xs.length 0 lo)).take (HT.sIx xs.length xs.length hi - HT.sIx xs.length 0 lo)).toArray }) (fun b ob e => Heap.get?_push_of_some _ e) (Nat.le_refl _)
      ⟨Heap.get?_push_size _ rfl, Nat.le_trans (cutV_length xs lo hi) hz, _, (r.drop (HT.sIx xs.length 0 lo)).take (HT.sIx xs.length xs.length hi - HT.sIx xs.length 0 lo), IsTup.new _ _⟩
    exact ⟨.ref s.heap.objs.size, _, J2, rfl, q2 hw _ _ rfl (I.hok.fresh (Nat.le_refl _))⟩
/-- t.count(x), t such, of flat items -/
def tCntF (K : PySem.W.Frag) (to : TE) (t : TA) : TE := fun σ H Q => to σ H fun x H1 => ∃ (p : Addr) (ys : List V), x = .ref p ∧ TupF H1 p ys ∧ t σ H1 fun xs H2 => ∃ y : V, xs = [y] ∧ SqT K H2 p ys ∧ flatV y = true ∧ ys.all flatV = true ∧ Q (.int (ys.countP fun z => eqV z y : Nat)) H2
theorem pe_cntF {o e : Expr} {to : TE} {t : TA} {apos cpos : Pos} (ho : PE X o to) (ha : PA X [e] t)
    (hbase : attributeBase o "count" X.env (eval o X.env) = eval o X.env := by rfl)
    (hfew : ((backTo cpos (starEach [e] X.env)).all (fun x => !x.1) && (backToKw cpos (keywordEach [] X.env)).all (fun x => x.1.isSome)
      && decide (([e] : List Expr).length + ([] : List Keyword).length + (if ([] : List Keyword).isEmpty then 0 else 1) < 30)) = true := by rfl)
    (hline : (apos.endLine == cpos.line) = true := by rfl) (hs : starEach [e] X.env = (false, eval e X.env) :: starEach [] X.env := by rfl) :
    PE X (.Call (.Attribute o "count" apos) [e] [] cpos) (tCntF X.K to t) := by
  constructor
  intro pins s σ H Q I h
  refine wpAny_Call_method_late hbase hfew hline rfl (thn (ho.run pins s σ H _ I h) ?_)
  rintro v s1 ⟨x, H1, I1, r1, p, ys, rfl, ⟨ob, hd, hH⟩, q1⟩
  cases r1
  obtain ⟨g1, gz, its, rv, ⟨⟨cls, dd, data, sl⟩, g2, hc, n, hdt⟩⟩ := I1.hok p _ hH
  rw [g1] at g2
  cases g2
  simp only at hc hdt hd
  subst hc hdt hd
  refine ⟨"tuple", "tuple.count", PySem.F.plainAttrs_tuple, PySem.F.slot_tuple_count, PySem.F.type_tuple_count, ⟨_, g1, rfl⟩, ?_, ?_⟩
  · intro a e
    cases e
    exact ⟨_, g1, rfl⟩
  have hA := ha.run cpos pins s1 σ H1 _ I1 q1
  rw [hs] at hA ⊢
  refine Calls.callWith_builtin rfl (Calls.evalArgs_plain ?_)
  refine thn hA ?_
  rintro us s2 ⟨vs, H2, I2, r2, y, rfl, hq2, fy, fys, q⟩
  obtain ⟨u, rfl, ru⟩ := r2.one
  obtain ⟨its2, rv2, ⟨⟨cls2, dd2, data2, sl2⟩, g2, hc2, n2, hdt2⟩, gz2⟩ := I2.tuple hq2
  simp only at hc2 hdt2
  subst hc2 hdt2
  refine call_meets PySem.F.slot_tuple_count ⟨_, g2, rfl⟩ PySem.F.entry_tuple_count (PySem.F.args_tuple_count_2 _ _)
    (SeqAt.tuple_countAt p its2.toArray n2 dd2 sl2 u (eqU y)) ⟨g2, fun u' hu' => mem_eqAt ru fy rv2 fys u' (by simpa using hu'), ?_⟩
  have ec : its2.toArray.toList.countP (eqU y) = ys.countP fun z => eqV z y := eqU_count rv2 fys
  refine ⟨.int (ys.countP fun z => eqV z y : Nat), H2, I2.tok _, ⟨s2.toks, ?_⟩, q⟩
  show Value.int ((its2.toArray.toList.countP (eqU y) : Nat) : Int) s2.toks = Value.int ((ys.countP fun z => eqV z y : Nat) : Int) s2.toks
  rw [ec]
end
end L2
namespace Dl
open PySem L2
/-- such a tuple of numbers -/
def ptQ (ns : List Int) (a : Addr) (L : List (Addr × HO)) : Prop := ∃ o : Obj, o.dict = none ∧ L = [(a, .frz o (.tup (ns.map V.int)))]
def ptD (ns : List Int) : D := .fn (ptQ ns)
theorem imm_pt {ns : List Int} : Imm (ptD ns) := imm_fn
theorem pt_own {K : PySem.W.Frag} {H : Hp} {a : Addr} {ns : List Int} {F : Fp} (h : TupF H a (ns.map V.int)) : OwnE K H (.ref a) (ptD ns) F := by
  obtain ⟨o, hd, e⟩ := h
  refine OwnE.node (vs := []) (F' := fun _ => False) ⟨_, ⟨o, hd, rfl⟩, fun p m => ?_⟩ rfl trivial (fun _ q => q.elim) (fun q => nomatch q)
  rw [List.mem_singleton.mp m]
  exact ⟨.inr (.inr ⟨_, _, rfl⟩), e⟩
theorem pt_of {K : PySem.W.Frag} {H : Hp} {v : V} {ns : List Int} {F : Fp} (h : OwnE K H v (ptD ns) F) : ∃ a, v = .ref a ∧ TupF H a (ns.map V.int) := by
  obtain ⟨a, vs, e, ⟨L, ⟨o, hd, rfl⟩, hL⟩, _⟩ := OwnE.of_node h rfl (fun _ _ q => nomatch q)
  exact ⟨a, e, o, hd, (hL _ List.mem_cons_self).2⟩
theorem wk_pt {ns : List Int} : Wk (ptD ns) (.tup (ns.map .int)) := fun K H v F o => by
  obtain ⟨a, rfl, t⟩ := pt_of o
  exact OwnE.node (vs := ns.map V.int) (F' := fun _ => False) t.sqt (by simp [kids]) (sep_ints ns) (fun _ q => q.elim) (fun q => nomatch q)
theorem vals_ints {K : PySem.W.Frag} {H : Hp} : ∀ {ns : List Int} {vs : List V} {F : Fp}, vs.length = (ns.map D.int).length → Sep (OwnE K H) (vs.zip (ns.map D.int)) F → vs = ns.map V.int
  | [], vs, _, hl, _ => List.length_eq_zero_iff.mp hl
  | n :: ns, [], _, hl, _ => nomatch hl
  | n :: ns, v :: vs, _, hl, ⟨_, _, h1, h2, _⟩ => by
    rw [h1.of_int, List.map_cons, vals_ints (ns := ns) (by simpa using hl) h2]
theorem count_V (i : Int) : ∀ ns : List Int, ((ns.map V.int).countP fun z => eqV z (.int i)) = ns.count i
  | [] => rfl
  | n :: ns => by
    rw [List.map_cons, List.countP_cons, List.count_cons, count_V i ns]
    by_cases h : n = i <;> simp [eqV, h]
section
variable {X : Cx} {f : Fm} {δ : Env} {e o : Expr} {pos p2 : Pos} {Ψ : Rs → Env → Prop} {N : List Str} {sc : Scope} {Pr : Program} {w : World} {K : PySem.W.Frag} {mg : Str → Option Value} {base : Heap}
/-- tuple(xs), its object known -/
theorem de_tupleF {p : Pos} (B : Bd X N sc) (J : Jn X Pr w K mg base) (hg : Gls sc "tuple") (hm : mg "tuple" = none) (h : DA X f δ [e] fun rs δ1 => ∃ (r : Rs) (ns : List Int), rs = [r] ∧ rsv δ1 r = some (.lst (ns.map .int)) ∧ Ψ (.v (ptD ns)) δ1) (he : starEach [e] X.env = (false, eval e X.env) :: starEach [] X.env := by rfl) : DE X f δ (.Call (.Name "tuple" p) [e] [] pos) Ψ :=
  de_bty call_tupleF B J hg hm PyProof.Rows.boot_tuple (he := he) (h := h.mono fun rs δ1 ⟨r, ns, e1, e2, k⟩ => by
    subst e1
    refine callOk1 fun H σ T v Q R q => ?_
    obtain ⟨F, ow⟩ := R.res (v := v) (r := r) (by simp) e2
    obtain ⟨p, vs, rfl, hs, hl, F', s⟩ := own_lst ow
    have ev := vals_ints hl s
    subst ev
    refine ⟨p, ns.map V.int, rfl, SqL.of hs, fun l o hd hp => q _ _ _ k ((R.tail.new hp).pushI (pt_own (F := fun _ => False) ⟨o, hd, upd_same⟩) imm_pt)⟩)
theorem de_viewPt {i : Nat} {x : Str} {ns : List Int} (B : Bd X N sc) (hN : Sl N i x) (hv : Vis sc x) (hd : δ[i]? = some (some (ptD ns))) (k : Ψ (.v (.tup (ns.map .int))) δ) (h1 : (x == ("__debug__" : Str)) = false := by first | exact PlN.d (by with_reducible assumption) | decide) (h2 : (x == ("__classdict__" : Str)) = false := by first | exact PlN.c (by with_reducible assumption) | decide) : DE X f δ (.Name x pos) Ψ :=
  DE.of (pe_var (B.ix hN) (B.vis hv) h1 h2) fun σ H Q ⟨T, R, q⟩ => by
    obtain ⟨v, e, F, o⟩ := R.slot hd
    exact ⟨v, e, q _ _ _ _ k (R.pushI (wk_pt _ _ _ _ o) (imm_tup (imm_map fun _ => imm_int)))⟩
theorem de_slF {lo hi : Option Expr} (h : DE X f δ e fun r δ1 => DO X f δ1 lo fun l δ2 => DO X f δ2 hi fun u δ3 => ∃ ns : List Int, r = .v (ptD ns) ∧ Ψ (.v (ptD (cutA ns l u))) δ3) : DE X f δ (.Subscript e (.Slice lo hi none p2) pos) Ψ :=
  DE.of (pe_slice sl_tupF h.h (po_u (f := f)) (po_u (f := f))) fun σ H Q ⟨T, R, q⟩ => ⟨T, R, fun r δ1 v H1 k1 R1 => ⟨δ1, _, k1, _, R1, fun l δ2 H2 k2 R2 => ⟨δ2, _, k2, _, R2, fun u δ3 H3 k3 R3 => by
    obtain ⟨ns, rfl, k⟩ := k3
    obtain ⟨F, ow⟩ := R3.res (v := v) (r := .v (ptD ns)) (by simp) rfl
    obtain ⟨p, rfl, t⟩ := pt_of ow
    have ec : cutV (ns.map V.int) l u = (cutA ns l u).map V.int := by
      unfold cutV cutA
      rw [List.length_map, List.map_take, List.map_drop]
    refine ⟨p, ns.map V.int, rfl, t, fun hw => ?_, fun hw p' o hd hp => ?_⟩
    · have e2 : cutA ns l u = ns := by
        unfold cutA
        rw [List.length_map] at hw
        rw [hw.1, hw.2]
        simp
      refine q _ _ _ _ k ?_
      rw [e2]
      exact R3
    · refine q _ _ _ _ k ((R3.tail.new hp).pushI (pt_own (F := fun _ => False) ⟨o, hd, ?_⟩) imm_pt)
      rw [← ec]
      exact upd_same⟩⟩⟩
theorem de_cntF {apos cpos : Pos} (h : DE X f δ o fun r δ1 => ∃ ns : List Int, r = .v (ptD ns) ∧ DA X f δ1 [e] fun rs δ2 => ∃ i : Int, rs = [.v (.int i)] ∧ Ψ (.v (.int (ns.count i : Nat))) δ2)
    (hbase : attributeBase o "count" X.env (eval o X.env) = eval o X.env := by rfl)
    (hfew : ((backTo cpos (starEach [e] X.env)).all (fun x => !x.1) && (backToKw cpos (keywordEach [] X.env)).all (fun x => x.1.isSome)
      && decide (([e] : List Expr).length + ([] : List Keyword).length + (if ([] : List Keyword).isEmpty then 0 else 1) < 30)) = true := by rfl)
    (hline : (apos.endLine == cpos.line) = true := by rfl) (hs : starEach [e] X.env = (false, eval e X.env) :: starEach [] X.env := by rfl) :
    DE X f δ (.Call (.Attribute o "count" apos) [e] [] cpos) Ψ :=
  DE.of (pe_cntF h.h (pa_u (f := f)) hbase hfew hline hs) fun σ H Q ⟨T, R, q⟩ => ⟨T, R, fun r δ1 v H1 ⟨ns, e1, k1⟩ R1 => by
    subst e1
    obtain ⟨F, ow⟩ := R1.res (v := v) (r := .v (ptD ns)) (by simp) rfl
    obtain ⟨p, rfl, t⟩ := pt_of ow
    refine ⟨p, ns.map V.int, rfl, t, δ1, _, k1, _, R1, fun rs δ2 vs H2 ⟨i, e2, k2⟩ hl R2 => ?_⟩
    subst e2
    obtain ⟨y, ev, ez⟩ := one_of (T := (V.ref p, Rs.v (ptD ns)) :: T) rfl hl
    subst ev
    rw [ez] at R2
    obtain ⟨F2, o2⟩ := R2.res (v := y) (r := .v (.int i)) (by simp) rfl
    rw [o2.of_int] at R2 ⊢
    obtain ⟨F3, o3⟩ := R2.tail.res (v := .ref p) (r := .v (ptD ns)) (by simp) rfl
    obtain ⟨p', ep, t'⟩ := pt_of o3
    cases ep
    refine ⟨.int i, rfl, t'.sqt, rfl, ?_, ?_⟩
    · rw [List.all_map]
      exact List.all_eq_true.mpr fun _ _ => rfl
    · rw [count_V]
      exact q _ _ _ _ k2 (R2.tail.tail.pushL rfl)⟩
end
end Dl

namespace Dl
open PySem L2
def top (i : Nat) : Stmt := PySem.Challenge.pw_drumlay_k15_what_stands_there.main.body.getD i (.Pass ⟨0, 0, 0, 0⟩)
theorem pl_row : PlN "row" := ⟨by decide +kernel, by decide +kernel, by decide +kernel⟩
theorem pl_why : PlN "why" := ⟨by decide +kernel, by decide +kernel, by decide +kernel⟩
theorem pl_thing : PlN "thing" := ⟨by decide +kernel, by decide +kernel, by decide +kernel⟩
theorem pl_isinstance : PlN "isinstance" := ⟨by decide +kernel, by decide +kernel, by decide +kernel⟩
theorem pl_int : PlN "int" := ⟨by decide +kernel, by decide +kernel, by decide +kernel⟩
theorem pl_bool : PlN "bool" := ⟨by decide +kernel, by decide +kernel, by decide +kernel⟩
theorem pl_worths : PlN "worths" := ⟨by decide +kernel, by decide +kernel, by decide +kernel⟩
theorem pl_rows : PlN "rows" := ⟨by decide +kernel, by decide +kernel, by decide +kernel⟩
theorem pl_shape : PlN "shape" := ⟨by decide +kernel, by decide +kernel, by decide +kernel⟩
theorem pl_kind : PlN "kind" := ⟨by decide +kernel, by decide +kernel, by decide +kernel⟩
theorem pl_part : PlN "part" := ⟨by decide +kernel, by decide +kernel, by decide +kernel⟩
theorem pl_tuple : PlN "tuple" := ⟨by decide +kernel, by decide +kernel, by decide +kernel⟩
theorem pl_len : PlN "len" := ⟨by decide +kernel, by decide +kernel, by decide +kernel⟩
theorem pl_str : PlN "str" := ⟨by decide +kernel, by decide +kernel, by decide +kernel⟩
theorem pl_SHAPES : PlN "SHAPES" := ⟨by decide +kernel, by decide +kernel, by decide +kernel⟩
theorem pl_zip : PlN "zip" := ⟨by decide +kernel, by decide +kernel, by decide +kernel⟩
theorem pl_program : PlN "program" := ⟨by decide +kernel, by decide +kernel, by decide +kernel⟩
theorem pl_number : PlN "number" := ⟨by decide +kernel, by decide +kernel, by decide +kernel⟩
theorem pl_worth : PlN "worth" := ⟨by decide +kernel, by decide +kernel, by decide +kernel⟩
theorem pl_MOST_WORTHS : PlN "MOST_WORTHS" := ⟨by decide +kernel, by decide +kernel, by decide +kernel⟩
theorem pl_BadProgram : PlN "BadProgram" := ⟨by decide +kernel, by decide +kernel, by decide +kernel⟩
theorem pl_MOST_ROWS : PlN "MOST_ROWS" := ⟨by decide +kernel, by decide +kernel, by decide +kernel⟩
theorem pl_enumerate : PlN "enumerate" := ⟨by decide +kernel, by decide +kernel, by decide +kernel⟩
theorem pl_why_row : PlN "why_row" := ⟨by decide +kernel, by decide +kernel, by decide +kernel⟩
theorem pl_wide : PlN "wide" := ⟨by decide +kernel, by decide +kernel, by decide +kernel⟩
theorem pl_LEAST_WIDE : PlN "LEAST_WIDE" := ⟨by decide +kernel, by decide +kernel, by decide +kernel⟩
theorem pl_MOST_WIDE : PlN "MOST_WIDE" := ⟨by decide +kernel, by decide +kernel, by decide +kernel⟩
theorem pl_BadLaying : PlN "BadLaying" := ⟨by decide +kernel, by decide +kernel, by decide +kernel⟩
theorem pl_home : PlN "home" := ⟨by decide +kernel, by decide +kernel, by decide +kernel⟩
theorem pl_place : PlN "place" := ⟨by decide +kernel, by decide +kernel, by decide +kernel⟩
theorem pl_MOST_HOMES : PlN "MOST_HOMES" := ⟨by decide +kernel, by decide +kernel, by decide +kernel⟩
theorem pl_sorted : PlN "sorted" := ⟨by decide +kernel, by decide +kernel, by decide +kernel⟩
theorem pl_set : PlN "set" := ⟨by decide +kernel, by decide +kernel, by decide +kernel⟩
theorem pl_list : PlN "list" := ⟨by decide +kernel, by decide +kernel, by decide +kernel⟩
theorem pl_laying : PlN "laying" := ⟨by decide +kernel, by decide +kernel, by decide +kernel⟩
theorem pl_places : PlN "places" := ⟨by decide +kernel, by decide +kernel, by decide +kernel⟩
theorem pl_homes : PlN "homes" := ⟨by decide +kernel, by decide +kernel, by decide +kernel⟩
theorem pl_need_wide : PlN "need_wide" := ⟨by decide +kernel, by decide +kernel, by decide +kernel⟩
theorem pl_is_home : PlN "is_home" := ⟨by decide +kernel, by decide +kernel, by decide +kernel⟩
theorem pl_taken : PlN "taken" := ⟨by decide +kernel, by decide +kernel, by decide +kernel⟩
theorem pl_max : PlN "max" := ⟨by decide +kernel, by decide +kernel, by decide +kernel⟩
theorem pl_found : PlN "found" := ⟨by decide +kernel, by decide +kernel, by decide +kernel⟩
theorem pl_need_program : PlN "need_program" := ⟨by decide +kernel, by decide +kernel, by decide +kernel⟩
theorem pl_need_laying : PlN "need_laying" := ⟨by decide +kernel, by decide +kernel, by decide +kernel⟩
theorem pl_spots : PlN "spots" := ⟨by decide +kernel, by decide +kernel, by decide +kernel⟩
theorem pl_many : PlN "many" := ⟨by decide +kernel, by decide +kernel, by decide +kernel⟩
theorem pl_spot : PlN "spot" := ⟨by decide +kernel, by decide +kernel, by decide +kernel⟩
theorem pl__law_script : PlN "_law_script" := ⟨by decide +kernel, by decide +kernel, by decide +kernel⟩
theorem pl__law_mixed_here : PlN "_law_mixed_here" := ⟨by decide +kernel, by decide +kernel, by decide +kernel⟩
theorem pl__law_cell : PlN "_law_cell" := ⟨by decide +kernel, by decide +kernel, by decide +kernel⟩
theorem pl__law_dice_here : PlN "_law_dice_here" := ⟨by decide +kernel, by decide +kernel, by decide +kernel⟩
theorem pl__law_many : PlN "_law_many" := ⟨by decide +kernel, by decide +kernel, by decide +kernel⟩
theorem pl__law_found : PlN "_law_found" := ⟨by decide +kernel, by decide +kernel, by decide +kernel⟩
theorem pl__law_due : PlN "_law_due" := ⟨by decide +kernel, by decide +kernel, by decide +kernel⟩
theorem pl__law_k : PlN "_law_k" := ⟨by decide +kernel, by decide +kernel, by decide +kernel⟩
theorem pl_range : PlN "range" := ⟨by decide +kernel, by decide +kernel, by decide +kernel⟩
theorem pl__law_like : PlN "_law_like" := ⟨by decide +kernel, by decide +kernel, by decide +kernel⟩
theorem pl__law_d : PlN "_law_d" := ⟨by decide +kernel, by decide +kernel, by decide +kernel⟩
theorem pl__law_at : PlN "_law_at" := ⟨by decide +kernel, by decide +kernel, by decide +kernel⟩
theorem pl__law_way : PlN "_law_way" := ⟨by decide +kernel, by decide +kernel, by decide +kernel⟩
theorem pl__law_next : PlN "_law_next" := ⟨by decide +kernel, by decide +kernel, by decide +kernel⟩
theorem pl__law_yes : PlN "_law_yes" := ⟨by decide +kernel, by decide +kernel, by decide +kernel⟩
theorem pl__law_begin : PlN "_law_begin" := ⟨by decide +kernel, by decide +kernel, by decide +kernel⟩
theorem pl__law_no : PlN "_law_no" := ⟨by decide +kernel, by decide +kernel, by decide +kernel⟩
theorem pl__law_deep : PlN "_law_deep" := ⟨by decide +kernel, by decide +kernel, by decide +kernel⟩
theorem pl__law_turn : PlN "_law_turn" := ⟨by decide +kernel, by decide +kernel, by decide +kernel⟩
theorem pl__law_here : PlN "_law_here" := ⟨by decide +kernel, by decide +kernel, by decide +kernel⟩
theorem pl__law_inner : PlN "_law_inner" := ⟨by decide +kernel, by decide +kernel, by decide +kernel⟩
theorem pl__law_behind : PlN "_law_behind" := ⟨by decide +kernel, by decide +kernel, by decide +kernel⟩
theorem pl__law_straight : PlN "_law_straight" := ⟨by decide +kernel, by decide +kernel, by decide +kernel⟩
theorem pl__law_fork : PlN "_law_fork" := ⟨by decide +kernel, by decide +kernel, by decide +kernel⟩
theorem pl__law_body : PlN "_law_body" := ⟨by decide +kernel, by decide +kernel, by decide +kernel⟩
theorem pl__law_program : PlN "_law_program" := ⟨by decide +kernel, by decide +kernel, by decide +kernel⟩
theorem pl__law_worths : PlN "_law_worths" := ⟨by decide +kernel, by decide +kernel, by decide +kernel⟩
theorem pl__law_rows : PlN "_law_rows" := ⟨by decide +kernel, by decide +kernel, by decide +kernel⟩
theorem pl__law_left : PlN "_law_left" := ⟨by decide +kernel, by decide +kernel, by decide +kernel⟩
theorem pl__law_names : PlN "_law_names" := ⟨by decide +kernel, by decide +kernel, by decide +kernel⟩
theorem pl__law_numbers : PlN "_law_numbers" := ⟨by decide +kernel, by decide +kernel, by decide +kernel⟩
theorem pl__law_number : PlN "_law_number" := ⟨by decide +kernel, by decide +kernel, by decide +kernel⟩
theorem pl__law_row : PlN "_law_row" := ⟨by decide +kernel, by decide +kernel, by decide +kernel⟩
theorem pl__law_told : PlN "_law_told" := ⟨by decide +kernel, by decide +kernel, by decide +kernel⟩
theorem pl__law_is_worth : PlN "_law_is_worth" := ⟨by decide +kernel, by decide +kernel, by decide +kernel⟩
theorem pl__law_order : PlN "_law_order" := ⟨by decide +kernel, by decide +kernel, by decide +kernel⟩
theorem pl__law_worth : PlN "_law_worth" := ⟨by decide +kernel, by decide +kernel, by decide +kernel⟩
theorem pl__law_mixed : PlN "_law_mixed" := ⟨by decide +kernel, by decide +kernel, by decide +kernel⟩
theorem pl__law_size : PlN "_law_size" := ⟨by decide +kernel, by decide +kernel, by decide +kernel⟩
theorem pl__law_near : PlN "_law_near" := ⟨by decide +kernel, by decide +kernel, by decide +kernel⟩
theorem pl__law_stopping : PlN "_law_stopping" := ⟨by decide +kernel, by decide +kernel, by decide +kernel⟩
theorem pl__law_most : PlN "_law_most" := ⟨by decide +kernel, by decide +kernel, by decide +kernel⟩
theorem pl__law_wide : PlN "_law_wide" := ⟨by decide +kernel, by decide +kernel, by decide +kernel⟩
theorem pl__law_places : PlN "_law_places" := ⟨by decide +kernel, by decide +kernel, by decide +kernel⟩
theorem pl__law_homes : PlN "_law_homes" := ⟨by decide +kernel, by decide +kernel, by decide +kernel⟩
theorem pl__law_some : PlN "_law_some" := ⟨by decide +kernel, by decide +kernel, by decide +kernel⟩
theorem pl__law_taken : PlN "_law_taken" := ⟨by decide +kernel, by decide +kernel, by decide +kernel⟩
theorem pl__law_lies : PlN "_law_lies" := ⟨by decide +kernel, by decide +kernel, by decide +kernel⟩
theorem pl__law_home : PlN "_law_home" := ⟨by decide +kernel, by decide +kernel, by decide +kernel⟩
theorem pl__law_place : PlN "_law_place" := ⟨by decide +kernel, by decide +kernel, by decide +kernel⟩
theorem pl__law_cells : PlN "_law_cells" := ⟨by decide +kernel, by decide +kernel, by decide +kernel⟩
theorem pl__law_what : PlN "_law_what" := ⟨by decide +kernel, by decide +kernel, by decide +kernel⟩
theorem pl__law_again : PlN "_law_again" := ⟨by decide +kernel, by decide +kernel, by decide +kernel⟩
theorem pl__law_spot : PlN "_law_spot" := ⟨by decide +kernel, by decide +kernel, by decide +kernel⟩
theorem pl__law_dice : PlN "_law_dice" := ⟨by decide +kernel, by decide +kernel, by decide +kernel⟩
theorem pl__law_any : PlN "_law_any" := ⟨by decide +kernel, by decide +kernel, by decide +kernel⟩
theorem pl__law_laying : PlN "_law_laying" := ⟨by decide +kernel, by decide +kernel, by decide +kernel⟩
theorem pl_image : PlN "image" := ⟨by decide +kernel, by decide +kernel, by decide +kernel⟩
theorem pl_tracks : PlN "tracks" := ⟨by decide +kernel, by decide +kernel, by decide +kernel⟩
abbrev s_is_number : Stmt := top 9
abbrev n_is_number : List Str := ["thing"]
abbrev p_is_number : List Str := ["thing"]
theorem sc_is_number : FnScope n_is_number p_is_number (defScope s_is_number) := ⟨rfl, rfl, rfl, by decide +kernel, rfl, by decide +kernel, by decide +kernel⟩
abbrev s_why_row : Stmt := top 10
abbrev n_why_row : List Str := ["row", "worths", "rows", "shape", "kind", "part"]
abbrev p_why_row : List Str := ["row", "worths", "rows"]
theorem sc_why_row : FnScope n_why_row p_why_row (defScope s_why_row) := ⟨rfl, rfl, rfl, by decide +kernel, rfl, by decide +kernel, by decide +kernel⟩
abbrev s_need_program : Stmt := top 11
abbrev n_need_program : List Str := ["program", "worths", "rows", "number", "row", "why", "worth"]
abbrev p_need_program : List Str := ["program"]
theorem sc_need_program : FnScope n_need_program p_need_program (defScope s_need_program) := ⟨rfl, rfl, rfl, by decide +kernel, rfl, by decide +kernel, by decide +kernel⟩
abbrev s_need_wide : Stmt := top 16
abbrev n_need_wide : List Str := ["wide"]
abbrev p_need_wide : List Str := ["wide"]
theorem sc_need_wide : FnScope n_need_wide p_need_wide (defScope s_need_wide) := ⟨rfl, rfl, rfl, by decide +kernel, rfl, by decide +kernel, by decide +kernel⟩
abbrev s_is_home : Stmt := top 17
abbrev n_is_home : List Str := ["home", "wide", "place"]
abbrev p_is_home : List Str := ["home", "wide"]
theorem sc_is_home : FnScope n_is_home p_is_home (defScope s_is_home) := ⟨rfl, rfl, rfl, by decide +kernel, rfl, by decide +kernel, by decide +kernel⟩
abbrev s_need_laying : Stmt := top 18
abbrev n_need_laying : List Str := ["program", "laying", "wide", "places", "homes", "row", "place", "worth", "home"]
abbrev p_need_laying : List Str := ["program", "laying"]
theorem sc_need_laying : FnScope n_need_laying p_need_laying (defScope s_need_laying) := ⟨rfl, rfl, rfl, by decide +kernel, rfl, by decide +kernel, by decide +kernel⟩
abbrev s_spots : Stmt := top 20
abbrev n_spots : List Str := ["program", "laying", "wide", "places", "homes", "taken", "rows", "place", "worths", "home"]
abbrev p_spots : List Str := ["program", "laying"]
theorem sc_spots : FnScope n_spots p_spots (defScope s_spots) := ⟨rfl, rfl, rfl, by decide +kernel, rfl, by decide +kernel, by decide +kernel⟩
abbrev s_cell_of : Stmt := top 21
abbrev n_cell_of : List Str := ["row", "rows", "worths", "found", "kind", "part"]
abbrev p_cell_of : List Str := ["row", "rows", "worths"]
theorem sc_cell_of : FnScope n_cell_of p_cell_of (defScope s_cell_of) := ⟨rfl, rfl, rfl, by decide +kernel, rfl, by decide +kernel, by decide +kernel⟩
abbrev s_tracks : Stmt := top 22
abbrev n_tracks : List Str := ["program", "laying"]
abbrev p_tracks : List Str := ["program", "laying"]
theorem sc_tracks : FnScope n_tracks p_tracks (defScope s_tracks) := ⟨rfl, rfl, rfl, by decide +kernel, rfl, by decide +kernel, by decide +kernel⟩
abbrev s_image : Stmt := top 23
abbrev n_image : List Str := ["program", "laying", "rows", "worths", "many", "found", "home", "worth", "spot", "row"]
abbrev p_image : List Str := ["program", "laying"]
theorem sc_image : FnScope n_image p_image (defScope s_image) := ⟨rfl, rfl, rfl, by decide +kernel, rfl, by decide +kernel, by decide +kernel⟩
abbrev s_l_dice : Stmt := top 25
abbrev n_l_dice : List Str := ["_law_script", "_law_mixed_here", "_law_cell"]
abbrev p_l_dice : List Str := ["_law_script"]
theorem sc_l_dice : FnScope n_l_dice p_l_dice (defScope s_l_dice) := ⟨rfl, rfl, rfl, by decide +kernel, rfl, by decide +kernel, by decide +kernel⟩
abbrev s_l_next : Stmt := top 26
abbrev n_l_next : List Str := ["_law_dice_here", "_law_many", "_law_found", "_law_cell"]
abbrev p_l_next : List Str := ["_law_dice_here", "_law_many"]
theorem sc_l_next : FnScope n_l_next p_l_next (defScope s_l_next) := ⟨rfl, rfl, rfl, by decide +kernel, rfl, by decide +kernel, by decide +kernel⟩
abbrev s_l_like : Stmt := top 27
abbrev n_l_like : List Str := ["_law_found", "_law_due", "_law_k"]
abbrev p_l_like : List Str := ["_law_found", "_law_due"]
theorem sc_l_like : FnScope n_l_like p_l_like (defScope s_l_like) := ⟨rfl, rfl, rfl, by decide +kernel, rfl, by decide +kernel, by decide +kernel⟩
abbrev s_l_straight : Stmt := top 28
abbrev n_l_straight : List Str := ["_law_d", "_law_at", "_law_way"]
abbrev p_l_straight : List Str := ["_law_d", "_law_at"]
theorem sc_l_straight : FnScope n_l_straight p_l_straight (defScope s_l_straight) := ⟨rfl, rfl, rfl, by decide +kernel, rfl, by decide +kernel, by decide +kernel⟩
abbrev s_l_fork : Stmt := top 29
abbrev n_l_fork : List Str := ["_law_d", "_law_at", "_law_yes", "_law_begin", "_law_no", "_law_k"]
abbrev p_l_fork : List Str := ["_law_d", "_law_at"]
theorem sc_l_fork : FnScope n_l_fork p_l_fork (defScope s_l_fork) := ⟨rfl, rfl, rfl, by decide +kernel, rfl, by decide +kernel, by decide +kernel⟩
abbrev s_l_body : Stmt := top 30
abbrev n_l_body : List Str := ["_law_d", "_law_at", "_law_deep", "_law_found", "_law_turn", "_law_here", "_law_way", "_law_inner", "_law_behind"]
abbrev p_l_body : List Str := ["_law_d", "_law_at", "_law_deep"]
theorem sc_l_body : FnScope n_l_body p_l_body (defScope s_l_body) := ⟨rfl, rfl, rfl, by decide +kernel, rfl, by decide +kernel, by decide +kernel⟩
abbrev s_l_mixed : Stmt := top 31
abbrev n_l_mixed : List Str := ["_law_d", "_law_program", "_law_worths", "_law_rows", "_law_left", "_law_names", "_law_numbers", "_law_found", "_law_number", "_law_row", "_law_told", "_law_k", "_law_is_worth", "_law_order", "_law_worth"]
abbrev p_l_mixed : List Str := ["_law_d", "_law_program"]
theorem sc_l_mixed : FnScope n_l_mixed p_l_mixed (defScope s_l_mixed) := ⟨rfl, rfl, rfl, by decide +kernel, rfl, by decide +kernel, by decide +kernel⟩
abbrev s_l_stopping : Stmt := top 32
abbrev n_l_stopping : List Str := ["_law_d", "_law_deep", "_law_worths", "_law_rows", "_law_program", "_law_k"]
abbrev p_l_stopping : List Str := ["_law_d", "_law_deep"]
theorem sc_l_stopping : FnScope n_l_stopping p_l_stopping (defScope s_l_stopping) := ⟨rfl, rfl, rfl, by decide +kernel, rfl, by decide +kernel, by decide +kernel⟩
abbrev s_l_any : Stmt := top 33
abbrev n_l_any : List Str := ["_law_d", "_law_many", "_law_rows", "_law_worths", "_law_size", "_law_number", "_law_near", "_law_way", "_law_k"]
abbrev p_l_any : List Str := ["_law_d"]
theorem sc_l_any : FnScope n_l_any p_l_any (defScope s_l_any) := ⟨rfl, rfl, rfl, by decide +kernel, rfl, by decide +kernel, by decide +kernel⟩
abbrev s_l_laying : Stmt := top 34
abbrev n_l_laying : List Str := ["_law_d", "_law_program", "_law_most", "_law_wide", "_law_places", "_law_homes", "_law_worth", "_law_some", "_law_row", "_law_k"]
abbrev p_l_laying : List Str := ["_law_d", "_law_program", "_law_most"]
theorem sc_l_laying : FnScope n_l_laying p_l_laying (defScope s_l_laying) := ⟨rfl, rfl, rfl, by decide +kernel, rfl, by decide +kernel, by decide +kernel⟩
abbrev s_law : Stmt := top 35
abbrev n_law : List Str := ["_law_script", "_law_d", "_law_turn", "_law_program", "_law_wide", "_law_places", "_law_homes", "_law_rows", "_law_taken", "_law_lies", "_law_home", "_law_place", "_law_cells", "_law_number", "_law_row", "_law_what", "_law_k", "_law_is_worth", "_law_worth", "_law_order", "_law_due", "_law_again", "_law_found", "_law_spot"]
abbrev p_law : List Str := ["_law_script"]
theorem sc_law : FnScope n_law p_law (defScope s_law) := ⟨rfl, rfl, rfl, by decide +kernel, rfl, by decide +kernel, by decide +kernel⟩
inductive NumD : D → Bool → Prop
  | int {i : Int} : NumD (.int i) true
  | bl {b : Bool} : NumD (.bl b) false
  | str {s : Str} : NumD (.str s) false
  | non : NumD .non false
  | tup {xs : List D} : NumD (.tup xs) false
  | lst {xs : List D} : NumD (.lst xs) false
def preIsNum : Pre := fun ds Φ => ∃ d b, ds = [d] ∧ NumD d b ∧ Imm d ∧ Φ (.bl b) [d]
inductive Op4 | load | add | take | store
def Op4.s : Op4 → Str
  | .load => "load"
  | .add => "add"
  | .take => "take"
  | .store => "store"
inductive Row
  | op (o : Op4) (v x : Int) | say (x : Int) | test (a b : Int) | stop
def Row.nm : Row → Str
  | .op o _ _ => o.s
  | .say _ => "say"
  | .test _ _ => "test"
  | .stop => "stop"
def Row.args : Row → List Int
  | .op _ v x => [v, x]
  | .say x => [x]
  | .test a b => [a, b]
  | .stop => []
def Row.sh : Row → Str
  | .op _ _ _ => "vr"
  | .say _ => "r"
  | .test _ _ => "rr"
  | .stop => ""
def Row.d (r : Row) : D := .tup (.str r.nm :: r.args.map .int)
def Row.Ok (nw nr : Int) : Row → Prop
  | .op _ v x => (0 ≤ v ∧ v < nw) ∧ 0 ≤ x ∧ x < nr
  | .say x => 0 ≤ x ∧ x < nr
  | .test a b => (0 ≤ a ∧ a < nr) ∧ 0 ≤ b ∧ b < nr
  | .stop => True
theorem Row.imm (r : Row) : Imm r.d := imm_tup (imm_cons imm_str (imm_map fun _ => imm_int))
def shapes : List (Str × Str) := [("load", "vr"), ("add", "vr"), ("take", "vr"), ("store", "vr"), ("say", "r"), ("test", "rr"), ("stop", "")]
theorem Row.look (r : Row) : shapes.lookup r.nm = some r.sh := by
  cases r with
  | op o v x => cases o <;> rfl
  | _ => rfl
theorem Row.shl (r : Row) : r.sh.length = r.args.length := by
  cases r <;> rfl
theorem Row.at {r : Row} {nw nr : Int} (h : r.Ok nw nr) {i c : Nat} {a : Int} (h1 : r.sh.cps.toList[i]? = some c) (h2 : r.args[i]? = some a) : (c = 118 ∧ 0 ≤ a ∧ a < nw) ∨ (c = 114 ∧ 0 ≤ a ∧ a < nr) := by
  cases r with
  | op o v x =>
    match i, h1, h2 with
    | 0, h1, h2 => cases h1; cases h2; exact .inl ⟨rfl, h.1⟩
    | 1, h1, h2 => cases h1; cases h2; exact .inr ⟨rfl, h.2⟩
  | say x =>
    match i, h1, h2 with
    | 0, h1, h2 => cases h1; cases h2; exact .inr ⟨rfl, h⟩
  | test x y =>
    match i, h1, h2 with
    | 0, h1, h2 => cases h1; cases h2; exact .inr ⟨rfl, h.1⟩
    | 1, h1, h2 => cases h1; cases h2; exact .inr ⟨rfl, h.2⟩
  | stop => cases h2
def preWhyOk : Pre := fun ds Φ => ∃ r nw nr, ds = [Row.d r, .int nw, .int nr] ∧ r.Ok nw nr ∧ Φ .non ds
structure Prog where
  ws : List Int
  rows : List Row
def Prog.d (p : Prog) : D := .tup [.tup (p.ws.map .int), .tup (p.rows.map Row.d)]
structure Prog.Ok (p : Prog) : Prop where
  wl : p.ws.length ≤ 8
  wv : ∀ x ∈ p.ws, -1000000 ≤ x ∧ x ≤ 1000000
  r0 : 1 ≤ p.rows.length
  rl : p.rows.length ≤ 40
  rv : ∀ r ∈ p.rows, r.Ok p.ws.length p.rows.length
theorem rows_imm {rs : List Row} : ∀ x ∈ rs.map Row.d, Imm x := imm_map fun r => r.imm
theorem Prog.imm (p : Prog) : Imm p.d := imm_tup (imm_cons (imm_tup (imm_map fun _ => imm_int)) (imm_cons (imm_tup rows_imm) imm_nil))
def preNeedOk : Pre := fun ds Φ => ∃ p : Prog, ds = [p.d] ∧ p.Ok ∧ Φ .non ds
/-- the words of a row, the lines of a program -/
def Row.ws (r : Row) : List Str := r.nm :: r.args.map numW
def lineW (ws : List Str) : Str := Txt.join " " ws
def Prog.lines (p : Prog) : List Str := lineW ("worths" :: p.ws.map numW) :: p.rows.map fun r => lineW r.ws
def Prog.text (p : Prog) : Str := Txt.join "\n" p.lines
def wordD : D → D
  | .int i => .str (numW i)
  | d => d
theorem Row.wl (r : Row) : r.ws.length ≤ 3 := by
  cases r <;> simp [Row.ws, Row.args]
structure Dice where
  sc : List Int
  i : Int
  m : Int
  r : Int
def Dice.d (g : Dice) : D := .lst [.fz (g.sc.map .int), .int g.i, .int g.m, .int g.r]
structure Dice.Ok (g : Dice) : Prop where
  i : 0 ≤ g.i
  m : 0 ≤ g.m
  r : 0 ≤ g.r
  l : g.sc.length ≤ 63
def preDice : Pre := fun ds Φ => ∃ sc : List Int, ds = [.fz (sc.map .int)] ∧ sc.length ≤ 63 ∧ ∀ g : Dice, g.Ok → Φ g.d ds
def preNext : Pre := fun ds Φ => ∃ (g : Dice) (n : Int), ds = [g.d, .int n] ∧ 0 < n ∧ n < 1073741824 ∧ g.Ok ∧ ∀ (k : Int) (g' : Dice), 0 ≤ k → k < n → g'.Ok → Φ (.int k) [g'.d, .int n]
/-- plain data, of a depth -/
inductive Pl : Nat → D → Prop
  | int {n : Nat} {i : Int} : Pl n (.int i)
  | str {n : Nat} {i : Str} : Pl n (.str i)
  | bl {n : Nat} {i : Bool} : Pl n (.bl i)
  | non {n : Nat} : Pl n .non
  | tup {n : Nat} {xs : List D} : xs.length < 1000000 → (∀ x ∈ xs, Pl n x) → Pl (n + 1) (.tup xs)
theorem Pl.imm {n : Nat} {d : D} (h : Pl n d) : Imm d := by
  induction h with
  | int => exact imm_int
  | str => exact imm_str
  | bl => exact imm_bl
  | non => exact imm_non
  | tup _ _ ih => exact imm_tup ih
/-- a row that goes on to one row -/
inductive Row.Line : Row → Prop
  | op {o : Op4} {v x : Int} : Row.Line (.op o v x)
  | say {x : Int} : Row.Line (.say x)
def Row.to (y : Int) : Row → Row
  | .op o v _ => .op o v y
  | .say _ => .say y
  | r => r
def preStraight : Pre := fun ds Φ => ∃ (g : Dice) (a : Int), ds = [g.d, .int a] ∧ g.Ok ∧ 0 ≤ a ∧ a < 100000 ∧ ∀ (r : Row) (g' : Dice), r.Ok 8 (a + 2) → r.Line → g'.Ok → Φ r.d [g'.d, .int a]
def rowsD (rs : List Row) : List D := rs.map Row.d
theorem rowsD_imm {rs : List Row} : ∀ x ∈ rowsD rs, Imm x := rows_imm
/-- rows that stand at a .. a + n, going at most to a + n -/
def Row.OkL (nw nr : Int) : Row → Prop
  | .op _ v x => (0 ≤ v ∧ v < nw) ∧ 0 ≤ x ∧ x < nr
  | .say x => 0 ≤ x ∧ x < nr
  | .test a b => (0 ≤ a ∧ a < nr) ∧ 0 ≤ b ∧ b < nr
  | .stop => False
theorem Row.OkL.ok {nw nr : Int} {r : Row} (h : r.OkL nw nr) : r.Ok nw nr := by
  cases r with
  | stop => exact h.elim
  | _ => exact h
theorem Row.okL {nw nr : Int} {r : Row} (l : r.Line) (h : r.Ok nw nr) : r.OkL nw nr := by
  cases l <;> exact h
theorem Row.OkL.ne {nw nr : Int} {r : Row} (h : r.OkL nw nr) : r ≠ .stop := fun e => by rw [e] at h; exact h
def RowsOk (a : Int) (rs : List Row) : Prop := ∀ r ∈ rs, r.OkL 8 (a + rs.length + 1)
theorem Row.Ok.mono {nw nr nw' nr' : Int} {r : Row} (h : r.Ok nw nr) (h1 : nw ≤ nw') (h2 : nr ≤ nr') : r.Ok nw' nr' := by
  cases r with
  | op o v x => exact ⟨⟨h.1.1, by have := h.1.2; omega⟩, h.2.1, by have := h.2.2; omega⟩
  | say x => exact ⟨h.1, by have := h.2; omega⟩
  | test x y => exact ⟨⟨h.1.1, by have := h.1.2; omega⟩, h.2.1, by have := h.2.2; omega⟩
  | stop => trivial
theorem Row.to_d {r : Row} {y : Int} (h : r.Line) : D.tup (cutA (D.str r.nm :: r.args.map D.int) none (some (-1)) ++ [D.int y]) = (r.to y).d := by
  cases h with
  | op => rfl
  | say => rfl
theorem Row.OkL.mono {nw nr nw' nr' : Int} {r : Row} (h : r.OkL nw nr) (h1 : nw ≤ nw') (h2 : nr ≤ nr') : r.OkL nw' nr' := by
  cases r with
  | op o v x => exact ⟨⟨h.1.1, by have := h.1.2; omega⟩, h.2.1, by have := h.2.2; omega⟩
  | say x => exact ⟨h.1, by have := h.2; omega⟩
  | test x y => exact ⟨⟨h.1.1, by have := h.1.2; omega⟩, h.2.1, by have := h.2.2; omega⟩
  | stop => exact h.elim
theorem Row.to_okL {r : Row} {y nw nr nr' : Int} (h : r.Line) (k : r.Ok nw nr) (h0 : 0 ≤ y) (h1 : y < nr') : (r.to y).OkL nw nr' := by
  cases h with
  | op => exact ⟨k.1, h0, h1⟩
  | say => exact ⟨h0, h1⟩
def preFork : Pre := fun ds Φ => ∃ (g : Dice) (a : Int), ds = [g.d, .int a] ∧ g.Ok ∧ 0 ≤ a ∧ a < 90000 ∧ ∀ (rs : List Row) (g' : Dice), rs.length ≤ 6 → RowsOk a rs → g'.Ok → Φ (.lst (rowsD rs)) [g'.d, .int a]
def bnd (deep : Int) : Int := if deep = 0 then 18 else if deep = 1 then 72 else 234
def preBody (n : Nat) : Pre := fun ds Φ => ∃ (g : Dice) (a deep : Int), ds = [g.d, .int a, .int deep] ∧ g.Ok ∧ 0 ≤ a ∧ a + bnd deep < 40000 ∧ 0 ≤ deep ∧ deep ≤ n ∧ ∀ (rs : List Row) (g' : Dice), (rs.length : Int) ≤ bnd deep → RowsOk a rs → g'.Ok → Φ (.lst (rowsD rs)) [g'.d, .int a, .int deep]
theorem RowsOk.app {a : Int} {rs qs : List Row} (h : RowsOk a rs) (k : ∀ r ∈ qs, r.OkL 8 (a + rs.length + qs.length + 1)) : RowsOk a (rs ++ qs) := fun r m => by
  have e : (((rs ++ qs).length : Nat) : Int) = rs.length + qs.length := by simp
  rw [e]
  rcases List.mem_append.mp m with m | m
  · exact (h r m).mono (Int.le_refl _) (by omega)
  · exact (k r m).mono (Int.le_refl _) (by omega)
theorem rowsD_app {rs qs : List Row} : rowsD rs ++ rowsD qs = rowsD (rs ++ qs) := by simp [rowsD]
def rngI (lo : Int) (n : Nat) : List Int := (List.range n).map fun i => lo + (i : Nat)
theorem rngD_I {lo : Int} {n : Nat} : rngD lo n = (rngI lo n).map D.int := by simp [rngD, rngI]
theorem rngI_mem {lo x : Int} {n : Nat} : x ∈ rngI lo n ↔ lo ≤ x ∧ x < lo + n := by
  unfold rngI
  rw [List.mem_map]
  constructor
  · rintro ⟨i, hi, rfl⟩
    have := List.mem_range.mp hi
    omega
  · rintro ⟨h1, h2⟩
    exact ⟨(x - lo).toNat, List.mem_range.mpr (by omega), by omega⟩
theorem rngI_len {lo : Int} {n : Nat} : (rngI lo n).length = n := by simp [rngI]
theorem pop_perm : ∀ (l : List Int) (k : Nat) (y : Int), l[k]? = some y → (y :: l.eraseIdx k).Perm l
  | [], k, y, h => by simp at h
  | a :: l, 0, y, h => by cases h; exact List.Perm.refl _
  | a :: l, k + 1, y, h => (List.Perm.swap _ _ _).trans (List.Perm.cons _ (pop_perm l k y (by simpa using h)))
theorem perm_pop {ns ls l : List Int} {k : Nat} {y : Int} (h : (ns ++ ls).Perm l) (hy : ls[k]? = some y) : (ns ++ [y] ++ ls.eraseIdx k).Perm l := by
  refine List.Perm.trans ?_ h
  rw [List.append_assoc]
  exact List.Perm.append_left _ (pop_perm ls k y hy)
theorem map_erase {α β : Type} (f : α → β) : ∀ (l : List α) (k : Nat), (l.map f).eraseIdx k = (l.eraseIdx k).map f
  | [], k => by simp
  | a :: l, 0 => rfl
  | a :: l, k + 1 => congrArg (f a :: ·) (map_erase f l k)
/-- the first row is no stop -/
def Prog.St (p : Prog) : Prop := p.rows[0]? ≠ some .stop
def preMixed : Pre := fun ds Φ => ∃ (g : Dice) (p : Prog), ds = [g.d, p.d] ∧ g.Ok ∧ p.Ok ∧ ∀ (q : Prog) (g' : Dice), q.Ok → g'.Ok → (p.St → q.St) → Φ q.d [g'.d, p.d]
def Row.ren (f g : Int → Int) : Row → Row
  | .op o v x => .op o (f v) (g x)
  | .say x => .say (g x)
  | .test a b => .test (g a) (g b)
  | .stop => .stop
def Row.isOp : Row → Bool
  | .op _ _ _ => true
  | _ => false
theorem Row.ren_nm {f g : Int → Int} {r : Row} : (r.ren f g).nm = r.nm := by cases r <;> rfl
theorem Row.ren_at {f g : Int → Int} {r : Row} {j : Nat} {a : Int} (h : r.args[j]? = some a) : (r.ren f g).args[j]? = some (if (j == 0 && r.isOp) = true then f a else g a) := by
  cases r with
  | op o v x =>
    match j, h with
    | 0, h => cases h; rfl
    | 1, h => cases h; rfl
  | say x =>
    match j, h with
    | 0, h => cases h; rfl
  | test x y =>
    match j, h with
    | 0, h => cases h; rfl
    | 1, h => cases h; rfl
  | stop => cases h
theorem Row.ren_ok {f g : Int → Int} {r : Row} {nw nr nw' nr' : Int} (h : r.Ok nw nr) (hf : ∀ v, 0 ≤ v → v < nw → 0 ≤ f v ∧ f v < nw') (hg : ∀ v, 0 ≤ v → v < nr → 0 ≤ g v ∧ g v < nr') : (r.ren f g).Ok nw' nr' := by
  cases r with
  | op o v x => exact ⟨hf _ h.1.1 h.1.2, hg _ h.2.1 h.2.2⟩
  | say x => exact hg _ h.1 h.2
  | test x y => exact ⟨hg _ h.1.1 h.1.2, hg _ h.2.1 h.2.2⟩
  | stop => trivial
theorem Row.ren_len {f g : Int → Int} {r : Row} : (r.ren f g).args.length = r.args.length := by cases r <;> rfl
theorem Row.arg_lt {r : Row} {nw nr : Int} (h : r.Ok nw nr) {j : Nat} {a : Int} (e : r.args[j]? = some a) : if (j == 0 && r.isOp) = true then 0 ≤ a ∧ a < nw else 0 ≤ a ∧ a < nr := by
  cases r with
  | op o v x =>
    match j, e with
    | 0, e => cases e; exact h.1
    | 1, e => cases e; exact h.2
  | say x =>
    match j, e with
    | 0, e => cases e; exact h
  | test x y =>
    match j, e with
    | 0, e => cases e; exact h.1
    | 1, e => cases e; exact h.2
  | stop => cases e
theorem isOp_in (r : Row) : inV (.str r.nm) [.str "load", .str "add", .str "take", .str "store"] = r.isOp := by
  cases r with
  | op o v x => cases o <;> rfl
  | _ => rfl
def optD : Option Row → D
  | none => .non
  | some r => r.d
theorem rep_oD (n : Nat) : (List.replicate n [D.non]).flatten = (List.replicate n (none : Option Row)).map optD := by
  induction n with
  | zero => rfl
  | succ n ih => rw [List.replicate_succ, List.flatten_cons, ih, List.replicate_succ, List.map_cons]; rfl
theorem oD_imm {fs : List (Option Row)} : ∀ x ∈ fs.map optD, Imm x := imm_map fun o => by
  cases o with
  | none => exact imm_non
  | some r => exact r.imm
theorem set_oD : ∀ (fs : List (Option Row)) (j : Nat) (r : Row), (fs.map optD).set j r.d = (fs.set j (some r)).map optD
  | [], j, r => rfl
  | f :: fs, 0, r => rfl
  | f :: fs, j + 1, r => congrArg (optD f :: ·) (set_oD fs j r)
theorem all_some : ∀ (fs : List (Option Row)), (∀ j, j < fs.length → ∃ r, fs[j]? = some (some r)) → ∃ rs : List Row, fs = rs.map some
  | [], _ => ⟨[], rfl⟩
  | f :: fs, h => by
    obtain ⟨r, hr⟩ := h 0 (by simp)
    obtain ⟨rs, e⟩ := all_some fs fun j hj => by
      obtain ⟨q, hq⟩ := h (j + 1) (by simp; omega)
      exact ⟨q, by simpa using hq⟩
    cases hr
    exact ⟨r :: rs, by rw [e]; rfl⟩
def preStopping : Pre := fun ds Φ => ∃ (g : Dice) (deep : Int), ds = [g.d, .int deep] ∧ g.Ok ∧ 0 ≤ deep ∧ deep ≤ 2 ∧ ∀ (q : Prog) (g' : Dice), q.Ok → g'.Ok → q.St → Φ q.d [g'.d, .int deep]
def preAny : Pre := fun ds Φ => ∃ (g : Dice), ds = [g.d] ∧ g.Ok ∧ ∀ (q : Prog) (g' : Dice), q.Ok → g'.Ok → Φ q.d [g'.d]
theorem Row.shp {n : Nat} (r : Row) : Shp (n + 1) r.d := by
  have h : PyData.canLay0 (.str r.nm) = true := by
    have ho : ∀ o : Op4, PyData.canLay0 (.str o.s) = true := fun o => by cases o <;> decide +kernel
    cases r with
    | op o v x => exact ho o
    | say x => exact (by decide +kernel : PyData.canLay0 (.str "say") = true)
    | test x y => exact (by decide +kernel : PyData.canLay0 (.str "test") = true)
    | stop => exact (by decide +kernel : PyData.canLay0 (.str "stop") = true)
  exact shp_tup (shp_all_cons (shp_str h) (shp_all_map fun _ => shp_int))
theorem rowsD_shp {rs : List Row} : Shp 6 (.lst (rowsD rs)) := shp_lst (shp_all_map fun r => r.shp)
theorem stopQ {ws : List Int} {rs : List Row} (h1 : ws.length = 8) (h2 : ∀ x ∈ ws, -1000000 ≤ x ∧ x ≤ 1000000) (h3 : rs.length ≤ 39) (h4 : RowsOk 0 rs) : Prog.Ok ⟨ws, rs ++ [.stop]⟩ := by
  refine ⟨by show ws.length ≤ 8; omega, h2, by simp, by simp; omega, fun r m => ?_⟩
  show r.Ok (ws.length : Nat) ((rs ++ [Row.stop]).length : Nat)
  rw [h1]
  rcases List.mem_append.mp m with m | m
  · exact (h4 r m).ok.mono (by omega) (by simp)
  · rw [List.mem_singleton.mp m]; trivial
theorem stopQ_st {ws : List Int} {rs : List Row} (h : RowsOk 0 rs) (hn : rs ≠ []) : Prog.St ⟨ws, rs ++ [.stop]⟩ := by
  cases rs with
  | nil => exact absurd rfl hn
  | cons r rs => exact fun e => (h r List.mem_cons_self).ne (Option.some.inj e)
theorem stopQ_d {ws : List Int} {rs : List Row} : D.tup [.tup (ws.map .int), .tup (rowsD rs ++ [.tup [.str "stop"]])] = Prog.d ⟨ws, rs ++ [.stop]⟩ := by
  simp [Prog.d, rowsD, Row.d, Row.nm, Row.args]
/-! ### what rows do -/
def rg (n : Int) : Int := (n + 1000000000) % 2000000000 - 1000000000
theorem rg_bd (n : Int) : -1000000000 ≤ rg n ∧ rg n < 1000000000 := by unfold rg; omega
structure M where
  ws : List Int
  h : Int
  said : List Int
def M.get (m : M) (v : Int) : Int := m.ws.getD v.toNat 0
def M.step (m : M) : Row → M × Option Int
  | .op .load v x => (⟨m.ws, m.get v, m.said⟩, some x)
  | .op .add v x => (⟨m.ws, rg (m.h + m.get v), m.said⟩, some x)
  | .op .take v x => (⟨m.ws, rg (m.h - m.get v), m.said⟩, some x)
  | .op .store v x => (⟨m.ws.set v.toNat m.h, m.h, m.said⟩, some x)
  | .say x => (⟨m.ws, m.h, m.said ++ [m.h]⟩, some x)
  | .test a b => (m, some (if m.h = 0 then a else b))
  | .stop => (m, none)
structure M.Ok (m : M) (nw : Nat) : Prop where
  len : m.ws.length = nw
  ws : ∀ x ∈ m.ws, -1000000000 ≤ x ∧ x < 1000000000
  h : -1000000000 ≤ m.h ∧ m.h < 1000000000
theorem M.Ok.get {m : M} {nw : Nat} (k : m.Ok nw) {v : Int} (h : 0 ≤ v ∧ v < nw) : m.ws[v.toNat]? = some (m.get v) ∧ -1000000000 ≤ m.get v ∧ m.get v < 1000000000 := by
  have hl : v.toNat < m.ws.length := by rw [k.len]; omega
  have e : m.ws[v.toNat]? = some (m.get v) := by
    unfold M.get
    rw [List.getD_eq_getElem?_getD, List.getElem?_eq_getElem hl]; rfl
  exact ⟨e, k.ws _ (List.mem_of_getElem? e)⟩
theorem M.Ok.step {m : M} {nw : Nat} {nr : Int} {r : Row} (k : m.Ok nw) (hr : r.Ok nw nr) : (m.step r).1.Ok nw ∧ ∀ x, (m.step r).2 = some x → 0 ≤ x ∧ x < nr := by
  cases r with
  | op o v x =>
    obtain ⟨hv, hx⟩ := hr
    cases o with
    | load => exact ⟨⟨k.len, k.ws, (k.get hv).2⟩, fun y e => by cases e; exact hx⟩
    | add => exact ⟨⟨k.len, k.ws, rg_bd _⟩, fun y e => by cases e; exact hx⟩
    | take => exact ⟨⟨k.len, k.ws, rg_bd _⟩, fun y e => by cases e; exact hx⟩
    | store => exact ⟨⟨by show (m.ws.set _ _).length = _; rw [List.length_set]; exact k.len, fun y q => by
        rcases List.mem_or_eq_of_mem_set q with q | q
        · exact k.ws y q
        · rw [q]; exact k.h, k.h⟩, fun y e => by cases e; exact hx⟩
  | say x => exact ⟨⟨k.len, k.ws, k.h⟩, fun y e => by cases e; exact hr⟩
  | test a b => exact ⟨k, fun y e => by
      cases e
      split
      · exact hr.1
      · exact hr.2⟩
  | stop => exact ⟨k, fun y e => nomatch e⟩
/-! ### counts of goes -/
abbrev Goes := List ((Int × Int) × Int)
def gk (c : Int × Int) : List L2.Key := [.inl c.1, .inl c.2]
def gD (g : Goes) : List (List L2.Key × D) := g.map fun c => (gk c.1, D.int c.2)
def gcnt (g : Goes) (c : Int × Int) : Int := match g.find? fun x => decide (x.1 = c) with
  | some x => x.2
  | none => 0
def gput (g : Goes) (c : Int × Int) (n : Int) : Goes := if (g.any fun x => decide (x.1 = c)) = true then g.map fun x => if x.1 = c then (x.1, n) else x else g ++ [(c, n)]
theorem gput_len (g : Goes) (c : Int × Int) (n : Int) : (gput g c n).length ≤ g.length + 1 := by
  unfold gput
  split
  · simp
  · simp
/-- the goes as told, rising -/
def gtrip (g : Goes) : O → D
  | .t [.i a, .i b] => .tup [.int a, .int b, .int (gcnt g (a, b))]
  | _ => .non
def gkeys (g : Goes) : List O := srtO ((gD g).map fun c => keysO c.1)
def gtold (g : Goes) : D := .lst ((gkeys g).map (gtrip g))
/-! ### a run -/
structure S where
  m : M
  at_ : Option Int
  done : List Int
  goes : Goes
def Prog.row (p : Prog) (i : Int) : Row := p.rows.getD i.toNat .stop
def S.next (p : Prog) (s : S) (i : Int) : S :=
  let t := s.m.step (p.row i)
  ⟨t.1, t.2, s.done.set i.toNat (s.done.getD i.toNat 0 + 1), match t.2 with
    | some j => gput s.goes (i, j) (gcnt s.goes (i, j) + 1)
    | none => s.goes⟩
def S.go (p : Prog) : Nat → S → S
  | 0, s => s
  | n + 1, s => match s.at_ with
    | none => s
    | some i => S.go p n (s.next p i)
def S.init (p : Prog) : S := ⟨⟨p.ws, 0, []⟩, some 0, List.replicate p.rows.length 0, []⟩
def endD (s : S) : D := .tup [.str (if s.at_ = none then "stop" else "long")]
def S.d (s : S) : D := .tup [.lst (s.m.said.map .int), endD s, .lst (s.done.map .int), gtold s.goes]
structure S.Ok (p : Prog) (s : S) (n : Nat) : Prop where
  m : s.m.Ok p.ws.length
  at_ : ∀ i, s.at_ = some i → 0 ≤ i ∧ i < p.rows.length
  len : s.done.length = p.rows.length
  sum : s.done.sum = n
  goes : s.goes.length ≤ n
  said : s.m.said.length ≤ n
theorem sum_set : ∀ {l : List Int} {i : Nat} (x : Int), i < l.length → (l.set i x).sum = l.sum - l.getD i 0 + x
  | a :: l, 0, x, h => by simp; omega
  | a :: l, i + 1, x, h => by
    have := sum_set (l := l) (i := i) x (by simpa using h)
    simp at this ⊢
    omega
theorem Prog.row_get {p : Prog} {i : Int} (h : 0 ≤ i ∧ i < p.rows.length) : p.rows[i.toNat]? = some (p.row i) := by
  unfold Prog.row
  rw [List.getD_eq_getElem?_getD, List.getElem?_eq_getElem (by omega)]; rfl
theorem Prog.Ok.row {p : Prog} (ok : p.Ok) {i : Int} (h : 0 ≤ i ∧ i < p.rows.length) : (p.row i).Ok p.ws.length p.rows.length := ok.rv _ (List.mem_of_getElem? (Prog.row_get h))
theorem said_len (m : M) (r : Row) : (m.step r).1.said.length ≤ m.said.length + 1 := by
  cases r with
  | op o v x => cases o <;> simp [M.step]
  | _ => simp [M.step]
theorem S.Ok.next {p : Prog} (ok : p.Ok) {s : S} {n : Nat} (k : s.Ok p n) {i : Int} (e : s.at_ = some i) : (s.next p i).Ok p (n + 1) := by
  have hi := k.at_ i e
  have st := k.m.step (ok.row hi)
  refine ⟨st.1, st.2, ?_, ?_, ?_, ?_⟩
  · show (s.done.set _ _).length = _
    rw [List.length_set]; exact k.len
  · show (s.done.set _ _).sum = _
    rw [sum_set _ (by rw [k.len]; omega), k.sum]
    push_cast
    omega
  · show (match (s.m.step (p.row i)).2 with
      | some j => gput s.goes (i, j) (gcnt s.goes (i, j) + 1)
      | none => s.goes).length ≤ _
    have := k.goes
    split
    · exact Nat.le_trans (gput_len _ _ _) (by omega)
    · omega
  · have := said_len s.m (p.row i)
    have := k.said
    show (s.m.step (p.row i)).1.said.length ≤ _
    omega
theorem S.Ok.init {p : Prog} (ok : p.Ok) : (S.init p).Ok p 0 := by
  refine ⟨⟨rfl, fun x m => by have := ok.wv x m; omega, ⟨by show (-1000000000 : Int) ≤ 0; decide, by show (0 : Int) < 1000000000; decide⟩⟩, fun i e => by cases e; have := ok.r0; omega, by simp [S.init], by simp [S.init], by simp [S.init], by simp [S.init]⟩
theorem S.Ok.go {p : Prog} (ok : p.Ok) : ∀ {n k : Nat} {s : S}, s.Ok p k → ∃ k', k' ≤ k + n ∧ k ≤ k' ∧ (S.go p n s).Ok p k' ∧ ((S.go p n s).at_ ≠ none → k' = k + n)
  | 0, k, s, h => ⟨k, by omega, by omega, h, fun _ => rfl⟩
  | n + 1, k, s, h => by
    unfold S.go
    split
    · next e => exact ⟨k, by omega, by omega, h, fun q => absurd e q⟩
    · next i e =>
      obtain ⟨k', h1, h2, h3, h4⟩ := S.Ok.go ok (n := n) (h.next ok e)
      exact ⟨k', by omega, by omega, h3, fun q => by have := h4 q; omega⟩
theorem S.next_none {p : Prog} {s : S} {i : Int} (e : (s.m.step (p.row i)).2 = none) : s.next p i = ⟨(s.m.step (p.row i)).1, none, s.done.set i.toNat (s.done.getD i.toNat 0 + 1), s.goes⟩ := by
  unfold S.next
  simp only [e]
theorem S.next_some {p : Prog} {s : S} {i y : Int} (e : (s.m.step (p.row i)).2 = some y) : s.next p i = ⟨(s.m.step (p.row i)).1, some y, s.done.set i.toNat (s.done.getD i.toNat 0 + 1), gput s.goes (i, y) (gcnt s.goes (i, y) + 1)⟩ := by
  unfold S.next
  simp only [e]
/-- plain data that may hold lists, of a depth -/
inductive Pm : Nat → D → Prop
  | int {n : Nat} {i : Int} : Pm n (.int i)
  | str {n : Nat} {i : Str} : Pm n (.str i)
  | bl {n : Nat} {i : Bool} : Pm n (.bl i)
  | non {n : Nat} : Pm n .non
  | tup {n : Nat} {xs : List D} : xs.length < 1000000 → (∀ x ∈ xs, Pm n x) → Pm (n + 1) (.tup xs)
  | lst {n : Nat} {xs : List D} : xs.length < 1000000 → (∀ x ∈ xs, Pm n x) → Pm (n + 1) (.lst xs)
theorem Pm.up {n : Nat} {d : D} (h : Pm n d) : ∀ m, n ≤ m → Pm m d := by
  induction h with
  | int => exact fun _ _ => .int
  | str => exact fun _ _ => .str
  | bl => exact fun _ _ => .bl
  | non => exact fun _ _ => .non
  | tup hl _ ih =>
    intro m hm
    obtain ⟨m, rfl⟩ : ∃ k, m = k + 1 := ⟨m - 1, by omega⟩
    exact .tup hl fun x hx => ih x hx m (by omega)
  | lst hl _ ih =>
    intro m hm
    obtain ⟨m, rfl⟩ : ∃ k, m = k + 1 := ⟨m - 1, by omega⟩
    exact .lst hl fun x hx => ih x hx m (by omega)
def preLikeM (n : Nat) : Pre := fun ds Φ => ∃ d, ds = [d, d] ∧ Pm n d ∧ Φ (.bl true) ds
theorem setP_item {δ : Env} {i j : Nat} {c d e : D} (h : δ[i]? = some (some c)) (hk : (kids (unT c))[j]? = some d) : setP δ i [j] e = δ.set i (some (setK c j e)) := by
  rw [setP_mk h]
  congr 2
  exact dSet_some hk
theorem Pm.shp {n : Nat} {d : D} (h : Pm n d) (hs : ∀ s : Str, PyData.canLay0 (.str s) = true) : Shp n d := by
  induction h with
  | int => exact shp_int
  | str => exact shp_str (hs _)
  | bl => exact shp_bl
  | non => exact shp_non
  | tup _ _ ih => exact shp_tup ih
  | lst _ _ ih => exact shp_lst ih
theorem getP_item {δ : Env} {i j : Nat} {c d : D} (h : δ[i]? = some (some c)) (hk : (kids (unT c))[j]? = some d) : getP δ i [j] = some d :=
  getP_mk h (dAt_some hk)
theorem set_self {α : Type} {xs : List α} {i : Nat} {d : α} (h : xs[i]? = some d) : xs.set i d = xs := by
  obtain ⟨hl, rfl⟩ := List.getElem?_eq_some_iff.mp h
  exact List.set_getElem_self hl
theorem like_item {xs : List D} {q d : D} {u u2 : V} {x : Option D} {i : Nat} (hq : q = .tup xs ∨ q = .lst xs) (hk : xs[i]? = some d) :
    rsvs [some (setK0 q i (.tg u d)), some (setK0 q i (.tg u2 d)), x] [.p u 0 [i], .p u2 1 [i]] = some [d, d] ∧
    backs [.p u 0 [i], .p u2 1 [i]] [d, d] [some (setK0 q i (.tg u d)), some (setK0 q i (.tg u2 d)), x] = [some q, some q, x] := by
  have hi : i < xs.length := (List.getElem?_eq_some_iff.mp hk).1
  have e1 : ∀ w : V, (xs.set i (D.tg w d))[i]? = some (D.tg w d) := fun w => by rw [List.getElem?_set_self hi]
  have e2 : ∀ w : V, (xs.set i (D.tg w d)).set i d = xs := fun w => by rw [List.set_set, set_self hk]
  have k1 : ∀ w : V, (kids (unT (setK0 q i (.tg w d))))[i]? = some (D.tg w d) := fun w => by
    rcases hq with rfl | rfl <;> exact e1 w
  have k2 : ∀ w : V, setK (setK0 q i (.tg w d)) i d = q := fun w => by
    rcases hq with rfl | rfl
    · exact congrArg D.tup (e2 w)
    · exact congrArg D.lst (e2 w)
  have a1 : rsv [some (setK0 q i (.tg u d)), some (setK0 q i (.tg u2 d)), x] (.p u 0 [i]) = some d := rsv_p (getP_item rfl (k1 u))
  have a2 : rsv [some (setK0 q i (.tg u d)), some (setK0 q i (.tg u2 d)), x] (.p u2 1 [i]) = some d := rsv_p (getP_item rfl (k1 u2))
  refine ⟨?_, ?_⟩
  · show (match rsv _ (.p u 0 [i]), rsvs _ [.p u2 1 [i]] with | some d, some ds => some (d :: ds) | _, _ => none) = _
    rw [a1]
    show (match some d, (match rsv _ (.p u2 1 [i]), rsvs _ [] with | some d, some ds => some (d :: ds) | _, _ => none) with | some d, some ds => some (d :: ds) | _, _ => none) = _
    rw [a2]
    rfl
  · show setP (setP [some (setK0 q i (.tg u d)), some (setK0 q i (.tg u2 d)), x] 0 [i] d) 1 [i] d = [some q, some q, x]
    rw [setP_item (δ := [some (setK0 q i (.tg u d)), some (setK0 q i (.tg u2 d)), x]) (c := setK0 q i (.tg u d)) rfl (k1 u), k2 u]
    rw [setP_item (c := setK0 q i (.tg u2 d)) rfl (k1 u2), k2 u2]
    rfl
/-- plain data that may hold frozen lists, of a depth -/
inductive Pf : Nat → D → Prop
  | int {n : Nat} {i : Int} : Pf n (.int i)
  | str {n : Nat} {i : Str} : Pf n (.str i)
  | bl {n : Nat} {i : Bool} : Pf n (.bl i)
  | non {n : Nat} : Pf n .non
  | tup {n : Nat} {xs : List D} : xs.length < 1000000 → (∀ x ∈ xs, Pf n x) → Pf (n + 1) (.tup xs)
  | fz {n : Nat} {xs : List D} : xs.length < 1000000 → (∀ x ∈ xs, Pf n x) → Pf (n + 1) (.fz xs)
theorem Pf.imm {n : Nat} {d : D} (h : Pf n d) : Imm d := by
  induction h with
  | int => exact imm_int
  | str => exact imm_str
  | bl => exact imm_bl
  | non => exact imm_non
  | tup _ _ ih => exact imm_tup ih
  | fz _ _ ih => exact imm_fz ih
/-! ### layings -/
structure Lay where
  wide : Int
  pl : List Int
  hm : List (List Int)
def homeD (h : List Int) : D := .tup (h.map .int)
def Lay.d (l : Lay) : D := .tup [.int l.wide, .tup (l.pl.map .int), .tup (l.hm.map homeD)]
def HomeOk (w : Int) (h : List Int) : Prop := (1 ≤ h.length ∧ h.length ≤ 3) ∧ h.Pairwise (· < ·) ∧ ∀ x ∈ h, 0 ≤ x ∧ x < w
structure Lay.Ok (l : Lay) (nr nw : Nat) : Prop where
  w : 2 ≤ l.wide ∧ l.wide ≤ 24
  pl : l.pl.length = nr
  pv : ∀ x ∈ l.pl, 0 ≤ x ∧ x < l.wide
  hl : l.hm.length = nw
  hv : ∀ h ∈ l.hm, HomeOk l.wide h
theorem homeD_imm (h : List Int) : Imm (homeD h) := imm_tup (imm_map fun _ => imm_int)
theorem Lay.imm (l : Lay) : Imm l.d := imm_tup (imm_cons imm_int (imm_cons (imm_tup (imm_map fun _ => imm_int)) (imm_cons (imm_tup (imm_map homeD_imm)) imm_nil)))
def hiL : List Int → Int
  | [] => 0
  | [a] => a
  | a :: b :: l => max a (hiL (b :: l))
def loL : List Int → Int
  | [] => 0
  | [a] => a
  | a :: b :: l => min a (loL (b :: l))
theorem hiL_mem : ∀ {l : List Int}, l ≠ [] → hiL l ∈ l
  | [], h => absurd rfl h
  | [a], _ => by simp [hiL]
  | a :: b :: l, _ => by
    have ih := hiL_mem (l := b :: l) (by simp)
    unfold hiL
    by_cases h : a ≤ hiL (b :: l)
    · rw [Int.max_eq_right h]; exact List.mem_cons_of_mem _ ih
    · rw [Int.max_eq_left (by omega)]; exact List.mem_cons_self
theorem hiL_ge : ∀ {l : List Int} {x : Int}, x ∈ l → x ≤ hiL l
  | [a], x, m => by rw [List.mem_singleton.mp m]; exact Int.le_refl _
  | a :: b :: l, x, m => by
    unfold hiL
    rcases List.mem_cons.mp m with rfl | m
    · exact Int.le_max_left _ _
    · exact Int.le_trans (hiL_ge m) (Int.le_max_right _ _)
theorem hiL_uniq {l : List Int} {m : Int} (h1 : m ∈ l) (h2 : ∀ y ∈ l, y ≤ m) : m = hiL l := by
  have := hiL_ge h1
  have := h2 _ (hiL_mem (l := l) (fun e => by rw [e] at h1; cases h1))
  omega
theorem loL_mem : ∀ {l : List Int}, l ≠ [] → loL l ∈ l
  | [], h => absurd rfl h
  | [a], _ => by simp [loL]
  | a :: b :: l, _ => by
    have ih := loL_mem (l := b :: l) (by simp)
    unfold loL
    by_cases h : a ≤ loL (b :: l)
    · rw [Int.min_eq_left h]; exact List.mem_cons_self
    · rw [Int.min_eq_right (by omega)]; exact List.mem_cons_of_mem _ ih
theorem loL_le : ∀ {l : List Int} {x : Int}, x ∈ l → loL l ≤ x
  | [a], x, m => by rw [List.mem_singleton.mp m]; exact Int.le_refl _
  | a :: b :: l, x, m => by
    unfold loL
    rcases List.mem_cons.mp m with rfl | m
    · exact Int.min_le_left _ _
    · exact Int.le_trans (Int.min_le_right _ _) (loL_le m)
theorem loL_uniq {l : List Int} {m : Int} (h1 : m ∈ l) (h2 : ∀ y ∈ l, m ≤ y) : m = loL l := by
  have := loL_le h1
  have := h2 _ (loL_mem (l := l) (fun e => by rw [e] at h1; cases h1))
  omega
def comesI (now place wide : Int) : Int := now + (place - now) % wide
def Row.use : Row → Option Int
  | .op _ v _ => some v
  | _ => none
def Row.work : Row → Int
  | .op .load _ _ => 1
  | .op .add _ _ => 2
  | .op .take _ _ => 2
  | .op .store _ _ => 1
  | .say _ => 3
  | .test _ _ => 1
  | .stop => 0
def Lay.home (l : Lay) (v : Int) : List Int := l.hm.getD v.toNat []
def Lay.over (l : Lay) (r : Row) (beat : Int) : Int := match r with
  | .op .store v _ => hiL ((l.home v).map fun q => comesI (beat + 1) q l.wide) + 1 + 1
  | .op o v x => loL ((l.home v).map fun q => comesI (beat + 1) q l.wide) + 1 + (Row.op o v x).work
  | r => beat + 1 + r.work
def Lay.at (l : Lay) (i : Int) : Int := l.pl.getD i.toNat 0
def rowAt (rows : List Row) (i : Int) : Row := rows.getD i.toNat .stop
def Row.nexts : Row → List Int
  | .op _ _ x => [x]
  | .say x => [x]
  | .test a b => srtU [a, b]
  | .stop => []
def goesFrom : Int → List Row → List (Int × Int)
  | _, [] => []
  | i, r :: rs => r.nexts.map (fun j => (i, j)) ++ goesFrom (i + 1) rs
def pairD (c : Int × Int) : D := .tup [.int c.1, .int c.2]
theorem pairD_imm (c : Int × Int) : Imm (pairD c) := imm_tup (imm_cons imm_int (imm_cons imm_int imm_nil))
def preWide : Pre := fun ds Φ => ∃ w : Int, ds = [.int w] ∧ 2 ≤ w ∧ w ≤ 24 ∧ Φ .non ds
def preIsHome : Pre := fun ds Φ => ∃ (h : List Int) (w : Int), ds = [homeD h, .int w] ∧ HomeOk w h ∧ Φ (.bl true) ds
def preNeedLay : Pre := fun ds Φ => ∃ (p : Prog) (l : Lay), ds = [p.d, l.d] ∧ p.Ok ∧ l.Ok p.rows.length p.ws.length ∧ Φ .non ds
theorem Lay.Ok.home {l : Lay} {nr nw : Nat} (k : l.Ok nr nw) {v : Int} (h : 0 ≤ v ∧ v < nw) : l.hm[v.toNat]? = some (l.home v) ∧ HomeOk l.wide (l.home v) := by
  have hl : v.toNat < l.hm.length := by rw [k.hl]; omega
  have e : l.hm[v.toNat]? = some (l.home v) := by
    unfold Lay.home
    rw [List.getD_eq_getElem?_getD, List.getElem?_eq_getElem hl]; rfl
  exact ⟨e, k.hv _ (List.mem_of_getElem? e)⟩
theorem Lay.Ok.at {l : Lay} {nr nw : Nat} (k : l.Ok nr nw) {i : Int} (h : 0 ≤ i ∧ i < nr) : l.pl[i.toNat]? = some (l.at i) ∧ 0 ≤ l.at i ∧ l.at i < l.wide := by
  have hl : i.toNat < l.pl.length := by rw [k.pl]; omega
  have e : l.pl[i.toNat]? = some (l.at i) := by
    unfold Lay.at
    rw [List.getD_eq_getElem?_getD, List.getElem?_eq_getElem hl]; rfl
  exact ⟨e, k.pv _ (List.mem_of_getElem? e)⟩
theorem goesFrom_mem : ∀ (rs : List Row) (k : Int) (c : Int × Int), c ∈ goesFrom k rs → ∃ i : Nat, c.1 = k + i ∧ ∃ r, rs[i]? = some r ∧ c.2 ∈ r.nexts
  | [], _, _, h => nomatch h
  | r :: rs, k, c, h => by
    rcases List.mem_append.mp (show c ∈ r.nexts.map (fun j => (k, j)) ++ goesFrom (k + 1) rs from h) with h | h
    · obtain ⟨j, hj, rfl⟩ := List.mem_map.mp h
      exact ⟨0, by simp, r, rfl, hj⟩
    · obtain ⟨i, h1, r', h2, h3⟩ := goesFrom_mem rs (k + 1) c h
      exact ⟨i + 1, by push_cast; omega, r', by simpa using h2, h3⟩
theorem nexts_ok {r : Row} {nw nr x : Int} (h : r.Ok nw nr) (m : x ∈ r.nexts) : 0 ≤ x ∧ x < nr := by
  cases r with
  | op o v y => rw [List.mem_singleton.mp m]; exact h.2
  | say y => rw [List.mem_singleton.mp m]; exact h
  | test a b =>
    have m2 := srtU_mem.mp m
    simp at m2
    rcases m2 with rfl | rfl
    · exact h.1
    · exact h.2
  | stop => cases m
/-! ### goes of a run that stops -/
def sIn (L : Goes) (i : Int) : Int := ((L.filter fun c => decide (c.1.2 = i)).map (·.2)).sum
def sOut (L : Goes) (i : Int) : Int := ((L.filter fun c => decide (c.1.1 = i)).map (·.2)).sum
inductive Rch (L : Goes) : Int → Prop
  | zero : Rch L 0
  | go {c : (Int × Int) × Int} : c ∈ L → Rch L c.1.1 → Rch L c.1.2
structure GOk (p : Prog) (L : Goes) : Prop where
  nd : (L.map (·.1)).Nodup
  mem : ∀ c ∈ L, c.1 ∈ goesFrom 0 p.rows
  pos : ∀ c ∈ L, 1 ≤ c.2
  fl : ∃ e : Nat, p.rows[e]? = some .stop ∧ (if e = 0 then 1 else 0) + sIn L e = 1 ∧ sOut L e = 0 ∧ ∀ i : Nat, i < p.rows.length → i ≠ e → (if i = 0 then 1 else 0) + sIn L i = sOut L i
  con : ∀ c ∈ L, Rch L c.1.1
  len : L.length ≤ 10000
  sml : ∀ c ∈ L, c.2 ≤ 10000
theorem GOk.bnd {p : Prog} {L : Goes} (ok : p.Ok) (k : GOk p L) {c : (Int × Int) × Int} (m : c ∈ L) : (0 ≤ c.1.1 ∧ c.1.1 < p.rows.length) ∧ 0 ≤ c.1.2 ∧ c.1.2 < p.rows.length := by
  obtain ⟨i, e1, r, hr, hn⟩ := goesFrom_mem _ _ _ (k.mem c m)
  have il : i < p.rows.length := (List.getElem?_eq_some_iff.mp hr).1
  exact ⟨⟨by omega, by omega⟩, nexts_ok (ok.rv r (List.mem_of_getElem? hr)) hn⟩
theorem nodup_len {α : Type} [DecidableEq α] : ∀ {l m : List α}, l.Nodup → (∀ x ∈ l, x ∈ m) → l.length ≤ m.length
  | [], _, _, _ => Nat.zero_le _
  | a :: l, m, h, s => by
    obtain ⟨h1, h2⟩ := List.nodup_cons.mp h
    have ha : a ∈ m := s a List.mem_cons_self
    have := nodup_len (m := m.erase a) h2 fun x mx => by
      have hx : x ≠ a := fun e => h1 (e ▸ mx)
      exact (List.mem_erase_of_ne hx).mpr (s x (List.mem_cons_of_mem _ mx))
    rw [List.length_erase_of_mem ha] at this
    have hp : 0 < m.length := List.length_pos_of_mem ha
    rw [List.length_cons]
    omega
theorem met_len {met : List Int} {n : Nat} (h : met.Nodup) (b : ∀ x ∈ met, 0 ≤ x ∧ x < n) : met.length ≤ n := by
  have := nodup_len (m := rngI 0 n) h fun x m => rngI_mem.mpr ⟨(b x m).1, by have := (b x m).2; omega⟩
  rwa [rngI_len] at this
def skeys (L : Goes) : List O := srtO (L.map fun c => O.t [.i c.1.1, .i c.1.2])
theorem skeys_mem {L : Goes} {o : O} (h : o ∈ skeys L) : ∃ c ∈ L, o = .t [.i c.1.1, .i c.1.2] := by
  obtain ⟨c, hc, rfl⟩ := List.mem_map.mp ((srtO_perm _).mem_iff.mp h)
  exact ⟨c, hc, rfl⟩
theorem gcnt_mem {L : Goes} (nd : (L.map (·.1)).Nodup) {c : (Int × Int) × Int} (h : c ∈ L) : gcnt L c.1 = c.2 := by
  unfold gcnt
  have hf : L.find? (fun x => decide (x.1 = c.1)) = some c := by
    induction L with
    | nil => cases h
    | cons a L ih =>
      rw [List.map_cons, List.nodup_cons] at nd
      rw [List.find?_cons]
      rcases List.mem_cons.mp h with rfl | h
      · simp
      · have : ¬ a.1 = c.1 := fun e => nd.1 (e ▸ List.mem_map.mpr ⟨c, h, rfl⟩)
        rw [decide_eq_false this]
        exact ih nd.2 h
  rw [hf]
/-! ### goes of a run -/
def fS (f : Int × Int → Bool) (g : Goes) : Int := ((g.filter fun c => f c.1).map (·.2)).sum
theorem fS_nil (f : Int × Int → Bool) : fS f [] = 0 := rfl
theorem fS_cons (f : Int × Int → Bool) (a : (Int × Int) × Int) (g : Goes) : fS f (a :: g) = (if f a.1 = true then a.2 else 0) + fS f g := by
  unfold fS
  rw [List.filter_cons]
  split <;> simp
theorem fS_snoc (f : Int × Int → Bool) (a : (Int × Int) × Int) (g : Goes) : fS f (g ++ [a]) = fS f g + (if f a.1 = true then a.2 else 0) := by
  induction g with
  | nil => rw [List.nil_append, fS_cons, fS_nil]; omega
  | cons b g ih => rw [List.cons_append, fS_cons, fS_cons, ih]; omega
theorem put_id {k : Int × Int} {n : Int} : ∀ {g : Goes}, (∀ x ∈ g, x.1 ≠ k) → (g.map fun x => if x.1 = k then (x.1, n) else x) = g
  | [], _ => rfl
  | a :: g, h => by rw [List.map_cons, if_neg (h a List.mem_cons_self), put_id fun x m => h x (List.mem_cons_of_mem _ m)]
theorem fS_map {f : Int × Int → Bool} {k : Int × Int} {n : Int} : ∀ {g : Goes}, (g.map (·.1)).Nodup → (∃ x ∈ g, x.1 = k) → (∀ x ∈ g, x.1 = k → n = x.2 + 1) → fS f (g.map fun x => if x.1 = k then (x.1, n) else x) = fS f g + if f k = true then 1 else 0
  | [], _, h, _ => by obtain ⟨x, m, _⟩ := h; cases m
  | a :: g, nd, h, hn => by
    rw [List.map_cons, List.nodup_cons] at nd
    rw [List.map_cons, fS_cons, fS_cons]
    by_cases e : a.1 = k
    · rw [if_pos e, put_id fun x m q => nd.1 (by rw [e, ← q]; exact List.mem_map.mpr ⟨x, m, rfl⟩), hn a List.mem_cons_self e]
      simp only [e]
      split <;> omega
    · obtain ⟨x, m, q⟩ := h
      have hx : ∃ x ∈ g, x.1 = k := by
        rcases List.mem_cons.mp m with rfl | m
        · exact absurd q e
        · exact ⟨x, m, q⟩
      rw [if_neg e, fS_map nd.2 hx fun x m => hn x (List.mem_cons_of_mem _ m)]
      omega
theorem gcnt_none {g : Goes} {k : Int × Int} (h : ∀ x ∈ g, x.1 ≠ k) : gcnt g k = 0 := by
  unfold gcnt
  rw [List.find?_eq_none.mpr fun x m => by simpa using h x m]
theorem any_key {g : Goes} {k : Int × Int} : (g.any fun x => decide (x.1 = k)) = true ↔ ∃ x ∈ g, x.1 = k := by
  simp [List.any_eq_true]
theorem fS_put {f : Int × Int → Bool} {g : Goes} {k : Int × Int} (nd : (g.map (·.1)).Nodup) : fS f (gput g k (gcnt g k + 1)) = fS f g + if f k = true then 1 else 0 := by
  unfold gput
  split
  · next h =>
    refine fS_map nd (any_key.mp h) fun x m q => ?_
    rw [← q, gcnt_mem nd m]
  · next h =>
    have h2 : ∀ x ∈ g, x.1 ≠ k := fun x m q => h (any_key.mpr ⟨x, m, q⟩)
    rw [fS_snoc, gcnt_none h2]
    rfl
theorem put_keys {g : Goes} {k : Int × Int} {n : Int} : (gput g k n).map (·.1) = if (∃ x ∈ g, x.1 = k) then g.map (·.1) else g.map (·.1) ++ [k] := by
  unfold gput
  by_cases h : ∃ x ∈ g, x.1 = k
  · rw [if_pos h, if_pos (any_key.mpr h), List.map_map]
    refine List.map_congr_left fun x m => ?_
    show (if x.1 = k then (x.1, n) else x).1 = x.1
    split <;> rfl
  · rw [if_neg h, if_neg fun q => h (any_key.mp q)]
    simp
theorem put_nodup {g : Goes} {k : Int × Int} {n : Int} (nd : (g.map (·.1)).Nodup) : ((gput g k n).map (·.1)).Nodup := by
  rw [put_keys]
  split
  · exact nd
  · next h => 
    refine List.nodup_append.mpr ⟨nd, by simp, fun a ha b hb => ?_⟩
    rw [List.mem_singleton.mp hb]
    intro q
    obtain ⟨x, m, e⟩ := List.mem_map.mp ha
    exact h ⟨x, m, e.trans q⟩
theorem put_mem {g : Goes} {k : Int × Int} {n : Int} {c : (Int × Int) × Int} (h : c ∈ gput g k n) : c ∈ g ∨ c = (k, n) := by
  unfold gput at h
  split at h
  · obtain ⟨x, m, e⟩ := List.mem_map.mp h
    by_cases q : x.1 = k
    · rw [if_pos q] at e; exact .inr (by rw [← e, q])
    · rw [if_neg q] at e; exact .inl (e ▸ m)
  · rcases List.mem_append.mp h with h | h
    · exact .inl h
    · exact .inr (List.mem_singleton.mp h)
theorem put_key {g : Goes} {k x : Int × Int} {n : Int} (h : x = k ∨ x ∈ g.map (·.1)) : x ∈ (gput g k n).map (·.1) := by
  rw [put_keys]
  split
  · next q =>
    rcases h with rfl | h
    · obtain ⟨y, m, e⟩ := q; exact List.mem_map.mpr ⟨y, m, e⟩
    · exact h
  · rcases h with rfl | h
    · simp
    · exact List.mem_append_left _ h
theorem rch_mono {g g' : Goes} (h : ∀ x ∈ g.map (·.1), x ∈ g'.map (·.1)) {i : Int} (r : Rch g i) : Rch g' i := by
  induction r with
  | zero => exact .zero
  | go m _ ih =>
    obtain ⟨y, my, ey⟩ := List.mem_map.mp (h _ (List.mem_map.mpr ⟨_, m, rfl⟩))
    rw [← ey] at ih ⊢
    exact .go my ih
theorem perm_sum {l l' : List Int} (h : l.Perm l') : l.sum = l'.sum := by
  induction h with
  | nil => rfl
  | cons _ _ ih => simp [ih]
  | swap => simp; omega
  | trans _ _ a b => exact a.trans b
theorem GOk.perm {p : Prog} {L L' : Goes} (h : L.Perm L') (k : GOk p L) : GOk p L' := by
  have hi : ∀ i, sIn L' i = sIn L i := fun i => (perm_sum ((h.filter _).map _)).symm
  have ho : ∀ i, sOut L' i = sOut L i := fun i => (perm_sum ((h.filter _).map _)).symm
  refine ⟨(h.map _).nodup_iff.mp k.nd, fun c m => k.mem c (h.mem_iff.mpr m), fun c m => k.pos c (h.mem_iff.mpr m), ?_, fun c m => rch_mono (fun x q => (h.map _).mem_iff.mp q) (k.con c (h.mem_iff.mpr m)), by rw [← h.length_eq]; exact k.len, fun c m => k.sml c (h.mem_iff.mpr m)⟩
  obtain ⟨e, h1, h2, h3, h4⟩ := k.fl
  exact ⟨e, h1, by rw [hi]; exact h2, by rw [ho]; exact h3, fun i a b => by rw [hi, ho]; exact h4 i a b⟩
theorem step_none {m : M} {r : Row} (h : (m.step r).2 = none) : r = .stop := by
  cases r with
  | op o v x => cases o <;> exact absurd h (by simp [M.step])
  | say x => exact absurd h (by simp [M.step])
  | test a b => exact absurd h (by simp [M.step])
  | stop => rfl
theorem step_some {m : M} {r : Row} {j : Int} (h : (m.step r).2 = some j) : j ∈ r.nexts := by
  cases r with
  | op o v x => cases o <;> (simp [M.step] at h; simp [Row.nexts, h])
  | say x => simp [M.step] at h; simp [Row.nexts, h]
  | test a b =>
    simp [M.step] at h
    refine srtU_mem.mpr ?_
    split at h <;> simp [h]
  | stop => simp [M.step] at h
theorem goesFrom_all : ∀ {rs : List Row} {k : Int} {i : Nat} {r : Row} {j : Int}, rs[i]? = some r → j ∈ r.nexts → (k + (i : Nat), j) ∈ goesFrom k rs
  | r0 :: rs, k, 0, r, j, h, hj => by
    have e : r0 = r := by simpa using h
    subst e
    refine List.mem_append_left _ (List.mem_map.mpr ⟨j, hj, by simp⟩)
  | r0 :: rs, k, i + 1, r, j, h, hj => by
    have := goesFrom_all (rs := rs) (k := k + 1) (i := i) (by simpa using h) hj
    refine List.mem_append_right _ ?_
    have e : k + ((i + 1 : Nat) : Int) = k + 1 + (i : Nat) := by push_cast; omega
    rw [e]
    exact this
structure GI (p : Prog) (s : S) (n : Nat) : Prop where
  nd : (s.goes.map (·.1)).Nodup
  mem : ∀ c ∈ s.goes, c.1 ∈ goesFrom 0 p.rows
  pos : ∀ c ∈ s.goes, 1 ≤ c.2
  sml : ∀ c ∈ s.goes, c.2 ≤ n
  con : ∀ c ∈ s.goes, Rch s.goes c.1.1
  ps : ∃ e : Nat, e < p.rows.length ∧ (s.at_ = some ((e : Nat) : Int) ∨ (s.at_ = none ∧ p.rows[e]? = some .stop)) ∧ Rch s.goes (e : Nat) ∧ ∀ i : Nat, i < p.rows.length → (if i = 0 then 1 else 0) + sIn s.goes i = sOut s.goes i + if i = e then 1 else 0
theorem GI.init {p : Prog} (ok : p.Ok) : GI p (S.init p) 0 := by
  refine ⟨List.nodup_nil, fun c m => (nomatch m), fun c m => (nomatch m), fun c m => (nomatch m), fun c m => (nomatch m), 0, ok.r0, .inl rfl, .zero, fun i _ => ?_⟩
  show _ + (0 : Int) = 0 + _
  omega
theorem gcnt_le {g : Goes} {k : Int × Int} {n : Nat} (h : ∀ c ∈ g, c.2 ≤ (n : Int)) (h0 : ∀ c ∈ g, (1 : Int) ≤ c.2) : 0 ≤ gcnt g k ∧ gcnt g k ≤ n := by
  unfold gcnt
  split
  · next x e =>
    have m := List.mem_of_find?_eq_some e
    have := h x m
    have := h0 x m
    omega
  · omega
theorem GI.next {p : Prog} (ok : p.Ok) {s : S} {n : Nat} (k : GI p s n) {i : Int} (e : s.at_ = some i) : GI p (s.next p i) (n + 1) := by
  obtain ⟨a, ha, hat, hr, hf⟩ := k.ps
  have ei : i = (a : Nat) := by
    rcases hat with h | h
    · rw [e] at h; exact Option.some.inj h
    · rw [e] at h; exact nomatch h.1
  subst ei
  have hrow : p.rows[a]? = some (p.row (a : Nat)) := by
    have := Prog.row_get (p := p) (i := (a : Nat)) ⟨by omega, by omega⟩
    simpa using this
  cases hst : (s.m.step (p.row (a : Nat))).2 with
  | none =>
    rw [S.next_none hst]
    rw [step_none hst] at hrow
    exact ⟨k.nd, k.mem, k.pos, fun c m => by have := k.sml c m; push_cast; omega, k.con, a, ha, .inr ⟨rfl, hrow⟩, hr, hf⟩
  | some j =>
    rw [S.next_some hst]
    have hj := step_some hst
    have hb := nexts_ok (ok.row (i := (a : Nat)) ⟨by omega, by omega⟩) hj
    have hg : (((a : Nat) : Int), j) ∈ goesFrom 0 p.rows := by
      have := goesFrom_all (k := 0) hrow hj
      simpa using this
    have hc := gcnt_le (k := (((a : Nat) : Int), j)) k.sml k.pos
    have mono : ∀ x ∈ s.goes.map (·.1), x ∈ (gput s.goes (((a : Nat) : Int), j) (gcnt s.goes (((a : Nat) : Int), j) + 1)).map (·.1) := fun x m => put_key (.inr m)
    have hra := rch_mono mono hr
    refine ⟨put_nodup k.nd, fun c m => ?_, fun c m => ?_, fun c m => ?_, fun c m => ?_, j.toNat, by omega, .inl (by show some j = some _; rw [Int.toNat_of_nonneg hb.1]), ?_, fun i hi => ?_⟩
    · rcases put_mem m with m | rfl
      · exact k.mem c m
      · exact hg
    · rcases put_mem m with m | rfl
      · exact k.pos c m
      · show 1 ≤ gcnt _ _ + 1; omega
    · rcases put_mem m with m | rfl
      · have := k.sml c m; push_cast; omega
      · show gcnt _ _ + 1 ≤ _; push_cast; omega
    · rcases put_mem m with m | rfl
      · exact rch_mono mono (k.con c m)
      · exact hra
    · rw [Int.toNat_of_nonneg hb.1]
      obtain ⟨y, my, ey⟩ := List.mem_map.mp (put_key (g := s.goes) (k := (((a : Nat) : Int), j)) (n := gcnt s.goes (((a : Nat) : Int), j) + 1) (.inl rfl))
      have := Rch.go my (by rw [ey]; exact hra)
      rw [ey] at this
      exact this
    · have h1 : sIn (gput s.goes (((a : Nat) : Int), j) (gcnt s.goes (((a : Nat) : Int), j) + 1)) i = sIn s.goes i + if j = (i : Int) then 1 else 0 := by
        have := fS_put (f := fun k => decide (k.2 = (i : Int))) (k := (((a : Nat) : Int), j)) k.nd
        simpa [fS, sIn] using this
      have h2 : sOut (gput s.goes (((a : Nat) : Int), j) (gcnt s.goes (((a : Nat) : Int), j) + 1)) i = sOut s.goes i + if ((a : Nat) : Int) = (i : Int) then 1 else 0 := by
        have := fS_put (f := fun k => decide (k.1 = (i : Int))) (k := (((a : Nat) : Int), j)) k.nd
        simpa [fS, sOut] using this
      have h3 := hf i hi
      show (if i = 0 then 1 else 0) + sIn (gput s.goes (((a : Nat) : Int), j) (gcnt s.goes (((a : Nat) : Int), j) + 1)) i = sOut (gput s.goes (((a : Nat) : Int), j) (gcnt s.goes (((a : Nat) : Int), j) + 1)) i + _
      rw [h1, h2]
      split at h3 <;> split at h3 <;> split <;> split <;> split <;> omega
theorem GI.go {p : Prog} (ok : p.Ok) : ∀ {n k : Nat} {s : S}, GI p s k → ∃ k', k' ≤ k + n ∧ GI p (S.go p n s) k'
  | 0, k, s, h => ⟨k, by omega, h⟩
  | n + 1, k, s, h => by
    unfold S.go
    split
    · exact ⟨k, by omega, h⟩
    · next i e =>
      obtain ⟨k', h1, h2⟩ := GI.go ok (n := n) (h.next ok e)
      exact ⟨k', by omega, h2⟩
theorem GI.ok {p : Prog} {s : S} {n : Nat} (k : GI p s n) (hn : n ≤ 5000) (hl : s.goes.length ≤ 5000) (e : s.at_ = none) : GOk p s.goes := by
  obtain ⟨a, ha, hat, hr, hf⟩ := k.ps
  have hs : p.rows[a]? = some .stop := by
    rcases hat with h | h
    · rw [e] at h; exact nomatch h
    · exact h.2
  have ho : sOut s.goes (a : Nat) = 0 := by
    unfold sOut
    rw [List.filter_eq_nil_iff.mpr]
    · rfl
    · intro c m q
      have q := of_decide_eq_true q
      obtain ⟨i, e1, r, hrr, hn⟩ := goesFrom_mem _ _ _ (k.mem c m)
      have : i = a := by omega
      subst this
      rw [hs] at hrr
      cases hrr
      exact absurd hn (by simp [Row.nexts])
  refine ⟨k.nd, k.mem, k.pos, ⟨a, hs, ?_, ho, fun i hi hne => ?_⟩, k.con, by omega, fun c m => by have := k.sml c m; omega⟩
  · have := hf a ha
    rw [ho, if_pos rfl] at this
    exact this
  · have := hf i hi
    rw [if_neg hne, Int.add_zero] at this
    exact this
/-- how often each row: as the goes tell -/
structure DnI (s : S) : Prop where
  nn : ∀ x ∈ s.done, (0 : Int) ≤ x
  ge : ∀ c ∈ s.goes, 0 ≤ c.1.1 ∧ c.1.1 < s.done.length ∧ 1 ≤ s.done.getD c.1.1.toNat 0
theorem getD_set {l : List Int} {i j : Nat} {x : Int} (h : i < l.length) : (l.set i x).getD j 0 = if i = j then x else l.getD j 0 := by
  rw [List.getD_eq_getElem?_getD, List.getD_eq_getElem?_getD]
  by_cases e : i = j
  · subst e; rw [if_pos rfl, List.getElem?_set_self h]; rfl
  · rw [if_neg e, List.getElem?_set_ne e]
theorem getD_nn {l : List Int} (h : ∀ x ∈ l, (0 : Int) ≤ x) (i : Nat) : 0 ≤ l.getD i 0 := by
  rw [List.getD_eq_getElem?_getD]
  cases e : l[i]? with
  | none => exact Int.le_refl _
  | some x => exact h x (List.mem_of_getElem? e)
theorem DnI.next {p : Prog} {s : S} (k : DnI s) {i : Int} (hi : 0 ≤ i ∧ i < s.done.length) : DnI (s.next p i) := by
  have h0 := getD_nn k.nn i.toNat
  have nn : ∀ x ∈ s.done.set i.toNat (s.done.getD i.toNat 0 + 1), (0 : Int) ≤ x := fun x m => by
    rcases List.mem_or_eq_of_mem_set m with m | m
    · exact k.nn x m
    · rw [m]; omega
  have ge : ∀ c : (Int × Int) × Int, (0 ≤ c.1.1 ∧ c.1.1 < s.done.length ∧ 1 ≤ s.done.getD c.1.1.toNat 0) ∨ c.1.1 = i → 0 ≤ c.1.1 ∧ c.1.1 < (s.done.set i.toNat (s.done.getD i.toNat 0 + 1)).length ∧ 1 ≤ (s.done.set i.toNat (s.done.getD i.toNat 0 + 1)).getD c.1.1.toNat 0 := fun c h => by
    rw [List.length_set, getD_set (by omega)]
    rcases h with h | h
    · refine ⟨h.1, h.2.1, ?_⟩
      split
      · omega
      · exact h.2.2
    · rw [h, if_pos rfl]; exact ⟨hi.1, hi.2, by omega⟩
  cases e : (s.m.step (p.row i)).2 with
  | none =>
    rw [S.next_none e]
    exact ⟨nn, fun c m => ge c (.inl (k.ge c m))⟩
  | some y =>
    rw [S.next_some e]
    refine ⟨nn, fun c m => ge c ?_⟩
    rcases put_mem m with m | rfl
    · exact .inl (k.ge c m)
    · exact .inr rfl
theorem DnI.go {p : Prog} (ok : p.Ok) : ∀ {n k : Nat} {s : S}, s.Ok p k → DnI s → DnI (S.go p n s)
  | 0, k, s, _, h => h
  | n + 1, k, s, so, h => by
    unfold S.go
    split
    · exact h
    · next i e =>
      have hi := so.at_ i e
      exact DnI.go ok (n := n) (so.next ok e) (h.next (by rw [so.len]; exact hi))
/-! ### a drum -/
structure T where
  s : S
  now : Int
def T.next (p : Prog) (l : Lay) (t : T) (i : Int) : T := ⟨t.s.next p i, l.over (p.row i) (comesI t.now (l.at i) l.wide)⟩
def T.go (p : Prog) (l : Lay) : Nat → T → T
  | 0, t => t
  | n + 1, t => match t.s.at_ with
    | none => t
    | some i => T.go p l n (t.next p l i)
def T.d (t : T) : D := .tup [.lst (t.s.m.said.map .int), endD t.s, .int t.now]
/-! ### the loops of a program -/
def pathD (p : List Int) : D := .tup (p.map .int)
/-! ### loops: what a round takes -/
theorem loL_shift {l l' : List Int} {c : Int} (hn : l ≠ []) (h1 : ∀ x ∈ l, x + c ∈ l') (h2 : ∀ y ∈ l', y - c ∈ l) : loL l' = loL l + c :=
  (loL_uniq (h1 _ (loL_mem hn)) fun y m => by have := loL_le (h2 y m); omega).symm
theorem hiL_shift {l l' : List Int} {c : Int} (hn : l ≠ []) (h1 : ∀ x ∈ l, x + c ∈ l') (h2 : ∀ y ∈ l', y - c ∈ l) : hiL l' = hiL l + c :=
  (hiL_uniq (h1 _ (hiL_mem hn)) fun y m => by have := hiL_ge (h2 y m); omega).symm
/-- a laying l' whose places are those of l, turned by b -/
structure Turned (l l' : Lay) (b : Int) : Prop where
  w : l'.wide = l.wide
  at_ : ∀ i, l'.at i = (l.at i + b) % l.wide ∨ (l.pl[i.toNat]? = none ∧ l'.pl[i.toNat]? = none)
  hm : ∀ v q, q ∈ l'.home v ↔ ∃ q0 ∈ l.home v, q = (q0 + b) % l.wide
theorem turn_mod {q a a' b w : Int} (h : ∃ m, a' = a + b + w * m) : ((q + b) % w - a') % w = (q - a) % w := by
  obtain ⟨m, rfl⟩ := h
  have h1 := Int.mul_ediv_add_emod (q + b) w
  have e : (q + b) % w - (a + b + w * m) = (q - a) + w * (- ((q + b) / w) - m) := by rw [Int.mul_sub, Int.mul_neg]; omega
  rw [e, Int.add_mul_emod_self_left]
theorem turn_comes {q a a' b w : Int} (h : ∃ m, a' = a + b + w * m) : comesI a' ((q + b) % w) w = comesI a q w + (a' - a) := by
  unfold comesI
  rw [turn_mod h]
  omega
theorem Turned.over {l l' : Lay} {b : Int} (t : Turned l l' b) {r : Row} {nr nw : Nat} {n a a' : Int} (ok : l.Ok nr nw) (okr : r.Ok nw n) (h : ∃ m, a' = a + b + l.wide * m) : l'.over r a' = l.over r a + (a' - a) := by
  have hne : ∀ v : Int, 0 ≤ v ∧ v < nw → ((l.home v).map fun q => comesI (a + 1) q l.wide) ≠ [] := fun v hv e => by
    have h1 := (ok.home hv).2.1.1
    have h2 : ((l.home v).map fun q => comesI (a + 1) q l.wide).length = 0 := by rw [e]; rfl
    rw [List.length_map] at h2
    omega
  have h' : ∃ m, a' + 1 = (a + 1) + b + l.wide * m := by obtain ⟨m, e⟩ := h; exact ⟨m, by omega⟩
  have s1 : ∀ v x, x ∈ (l.home v).map (fun q => comesI (a + 1) q l.wide) → x + (a' - a) ∈ (l'.home v).map (fun q => comesI (a' + 1) q l'.wide) := fun v x m => by
    obtain ⟨q, hq, rfl⟩ := List.mem_map.mp m
    refine List.mem_map.mpr ⟨(q + b) % l.wide, (t.hm v _).mpr ⟨q, hq, rfl⟩, ?_⟩
    rw [t.w, turn_comes h']
    omega
  have s2 : ∀ v y, y ∈ (l'.home v).map (fun q => comesI (a' + 1) q l'.wide) → y - (a' - a) ∈ (l.home v).map (fun q => comesI (a + 1) q l.wide) := fun v y m => by
    obtain ⟨q', hq', rfl⟩ := List.mem_map.mp m
    obtain ⟨q, hq, rfl⟩ := (t.hm v q').mp hq'
    refine List.mem_map.mpr ⟨q, hq, ?_⟩
    rw [t.w, turn_comes h']
    omega
  have lo : ∀ v : Int, 0 ≤ v ∧ v < nw → loL ((l'.home v).map fun q => comesI (a' + 1) q l'.wide) = loL ((l.home v).map fun q => comesI (a + 1) q l.wide) + (a' - a) := fun v hv => loL_shift (hne v hv) (s1 v) (s2 v)
  have hi : ∀ v : Int, 0 ≤ v ∧ v < nw → hiL ((l'.home v).map fun q => comesI (a' + 1) q l'.wide) = hiL ((l.home v).map fun q => comesI (a + 1) q l.wide) + (a' - a) := fun v hv => hiL_shift (hne v hv) (s1 v) (s2 v)
  cases r with
  | op o v x =>
    have hv := lo v okr.1
    have hv2 := hi v okr.1
    cases o <;> simp only [Lay.over] <;> omega
  | _ => simp only [Lay.over]; omega
/-- the laying whose places are turned, homes rising again -/
def Lay.turn (l : Lay) (b : Int) : Lay := ⟨l.wide, l.pl.map fun q => (q + b) % l.wide, l.hm.map fun h => srtI (h.map fun q => (q + b) % l.wide)⟩
theorem Lay.turned (l : Lay) (b : Int) : Turned l (l.turn b) b := by
  refine ⟨rfl, fun i => ?_, fun v q => ?_⟩
  · unfold Lay.at Lay.turn
    simp only [List.getD_eq_getElem?_getD, List.getElem?_map]
    cases e : l.pl[i.toNat]? with
    | none => exact .inr ⟨rfl, rfl⟩
    | some x => exact .inl rfl
  · unfold Lay.home Lay.turn
    simp only [List.getD_eq_getElem?_getD, List.getElem?_map]
    cases e : l.hm[v.toNat]? with
    | none => simp
    | some h =>
      simp only [Option.map_some, Option.getD_some]
      rw [(srtI_perm _).mem_iff, List.mem_map]
      exact ⟨fun ⟨x, m, e⟩ => ⟨x, m, e.symm⟩, fun ⟨x, m, e⟩ => ⟨x, m, e.symm⟩⟩
/-! ### the loops found are good -/
structure GoodP (n : Nat) (p : List Int) : Prop where
  ne : p ≠ []
  nd : p.Nodup
  bd : ∀ x ∈ p, 0 ≤ x ∧ x < (n : Int)
/-! ### the fewest: what is tried -/
def ordStep (y : Int) (s : List Int × List (Int × Int)) (c : Int × Int) : List Int × List (Int × Int) := if c.1 = y ∧ c.2 ∉ s.1 then (s.1 ++ [c.2], s.2 ++ [c]) else s
def ordGo (ks : List (Int × Int)) : Nat → Nat → List Int × List (Int × Int) → List Int × List (Int × Int)
  | 0, _, s => s
  | n + 1, at_, s => match s.1[at_]? with
    | none => s
    | some y => ordGo ks n (at_ + 1) (ks.foldl (ordStep y) s)
def unP : O → Int × Int
  | .t [.i a, .i b] => (a, b)
  | _ => (0, 0)
def keysS (L : Goes) : List (Int × Int) := (skeys L).map unP
theorem keysS_mem {L : Goes} {k : Int × Int} (h : k ∈ keysS L) : ∃ c ∈ L, c.1 = k := by
  obtain ⟨o, ho, rfl⟩ := List.mem_map.mp h
  obtain ⟨c, hc, rfl⟩ := skeys_mem ho
  exact ⟨c, hc, rfl⟩
/-- what holds of (met, found) -/
structure OrdI (n : Nat) (j : List Int) (s : List Int × List (Int × Int)) : Prop where
  nd : s.1.Nodup
  bd : ∀ x ∈ s.1, 0 ≤ x ∧ x < (n : Int)
  fb : ∀ c ∈ s.2, (0 ≤ c.1 ∧ c.1 < (n : Int)) ∧ 0 ≤ c.2 ∧ c.2 < (n : Int)
  ln : s.2.length + 1 + j.length = s.1.length
theorem OrdI.step {n : Nat} {j : List Int} {s : List Int × List (Int × Int)} {y : Int} {c : Int × Int} (h : OrdI n j s) (hc : (0 ≤ c.1 ∧ c.1 < (n : Int)) ∧ 0 ≤ c.2 ∧ c.2 < (n : Int)) : OrdI n j (ordStep y s c) := by
  unfold ordStep
  split
  · next q =>
    refine ⟨List.nodup_append.mpr ⟨h.nd, by simp, fun a ha b hb e => ?_⟩, fun x m => ?_, fun x m => ?_, ?_⟩
    · rw [List.mem_singleton.mp hb] at e; exact q.2 (e ▸ ha)
    · rcases List.mem_append.mp m with m | m
      · exact h.bd x m
      · rw [List.mem_singleton.mp m]; exact hc.2
    · rcases List.mem_append.mp m with m | m
      · exact h.fb x m
      · rw [List.mem_singleton.mp m]; exact hc
    · have := h.ln
      simp only [List.length_append, List.length_singleton]
      omega
  · exact h
theorem OrdI.fold {n : Nat} {j : List Int} {y : Int} : ∀ {ks : List (Int × Int)} {s : List Int × List (Int × Int)}, OrdI n j s → (∀ c ∈ ks, (0 ≤ c.1 ∧ c.1 < (n : Int)) ∧ 0 ≤ c.2 ∧ c.2 < (n : Int)) → OrdI n j (ks.foldl (ordStep y) s)
  | [], _, h, _ => h
  | c :: ks, _, h, k => OrdI.fold (ks := ks) (h.step (k c List.mem_cons_self)) fun c m => k c (List.mem_cons_of_mem _ m)
theorem OrdI.go {n : Nat} {j : List Int} {ks : List (Int × Int)} (k : ∀ c ∈ ks, (0 ≤ c.1 ∧ c.1 < (n : Int)) ∧ 0 ≤ c.2 ∧ c.2 < (n : Int)) : ∀ {m at_ : Nat} {s : List Int × List (Int × Int)}, OrdI n j s → OrdI n j (ordGo ks m at_ s)
  | 0, _, _, h => h
  | m + 1, at_, s, h => by
    unfold ordGo
    split
    · exact h
    · exact OrdI.go k (h.fold k)
theorem OrdI.met {n : Nat} {j : List Int} {s : List Int × List (Int × Int)} (h : OrdI n j s) : s.1.length ≤ n := met_len h.nd h.bd
/-- the tries of a program, a width, goes -/
structure Tr where
  p : Prog
  w : Int
  L : Goes
  things : List Int
  joins : List Int
def Tr.order (t : Tr) : List (Int × Int) := (ordGo (keysS t.L) (t.p.rows.length + 1) 0 ([0] ++ t.joins, [])).2
structure Tr.Ok (t : Tr) : Prop where
  p : t.p.Ok
  w : 2 ≤ t.w ∧ t.w ≤ 24
  L : GOk t.p t.L
  th : ∀ x ∈ t.things, 0 ≤ x ∧ x < (t.p.ws.length : Int)
  jo : ∀ x ∈ t.joins, 1 ≤ x ∧ x < (t.p.rows.length : Int)
  jn : t.joins.Nodup
  tl : t.things.length ≤ 40
theorem Tr.Ok.ks {t : Tr} (ok : t.Ok) : ∀ c ∈ keysS t.L, (0 ≤ c.1 ∧ c.1 < (t.p.rows.length : Int)) ∧ 0 ≤ c.2 ∧ c.2 < (t.p.rows.length : Int) := fun c m => by
  obtain ⟨c, hc, rfl⟩ := keysS_mem m
  exact ok.L.bnd ok.p hc
def homesT (nw : Nat) (cs : List (Int × Int)) : List (List Int) := cs.foldl (fun hs c => hs.set c.1.toNat [c.2]) (List.replicate nw [0])
def place0 (nr : Nat) (cs : List (Int × Int)) : List Int := cs.foldl (fun ps c => ps.set c.1.toNat c.2) (List.replicate nr 0)
def placeS (p : Prog) (w : Int) (hs : List (List Int)) (ps : List Int) (c : Int × Int) : List Int := ps.set c.2.toNat ((Lay.mk w ps hs).over (p.row c.1) (ps.getD c.1.toNat 0) % w)
def Tr.lay (t : Tr) (picks : List Int) : Lay :=
  let hs := homesT t.p.ws.length (t.things.zip picks)
  ⟨t.w, t.order.foldl (placeS t.p t.w hs) (place0 t.p.rows.length (t.joins.zip (picks.drop t.things.length))), hs⟩
theorem homesT_ok {w : Int} (hw : 0 < w) {nw : Nat} : ∀ {cs : List (Int × Int)} {hs : List (List Int)}, hs.length = nw → (∀ h ∈ hs, HomeOk w h) → (∀ c ∈ cs, 0 ≤ c.2 ∧ c.2 < w) → (cs.foldl (fun hs c => hs.set c.1.toNat [c.2]) hs).length = nw ∧ ∀ h ∈ cs.foldl (fun hs c => hs.set c.1.toNat [c.2]) hs, HomeOk w h
  | [], _, h1, h2, _ => ⟨h1, h2⟩
  | c :: cs, hs, h1, h2, h3 => by
    refine homesT_ok hw (cs := cs) (by rw [List.length_set]; exact h1) (fun h m => ?_) fun c m => h3 c (List.mem_cons_of_mem _ m)
    rcases List.mem_or_eq_of_mem_set m with m | rfl
    · exact h2 h m
    · refine ⟨by simp, by simp, fun x m => ?_⟩
      rw [List.mem_singleton.mp m]
      exact h3 c List.mem_cons_self
theorem homes0_ok {w : Int} (hw : 0 < w) (nw : Nat) : (List.replicate nw [(0 : Int)]).length = nw ∧ ∀ h ∈ List.replicate nw [(0 : Int)], HomeOk w h := by
  refine ⟨by simp, fun h m => ?_⟩
  rw [(List.mem_replicate.mp m).2]
  refine ⟨by simp, by simp, fun x m => ?_⟩
  rw [List.mem_singleton.mp m]
  omega
theorem place0_ok {w : Int} (hw : 0 < w) {nr : Nat} : ∀ {cs : List (Int × Int)} {ps : List Int}, ps.length = nr → (∀ x ∈ ps, 0 ≤ x ∧ x < w) → (∀ c ∈ cs, 0 ≤ c.2 ∧ c.2 < w) → (cs.foldl (fun ps c => ps.set c.1.toNat c.2) ps).length = nr ∧ ∀ x ∈ cs.foldl (fun ps c => ps.set c.1.toNat c.2) ps, 0 ≤ x ∧ x < w
  | [], _, h1, h2, _ => ⟨h1, h2⟩
  | c :: cs, ps, h1, h2, h3 => by
    refine place0_ok hw (cs := cs) (by rw [List.length_set]; exact h1) (fun h m => ?_) fun c m => h3 c (List.mem_cons_of_mem _ m)
    rcases List.mem_or_eq_of_mem_set m with m | rfl
    · exact h2 h m
    · exact h3 c List.mem_cons_self
theorem zeros_ok {w : Int} (hw : 0 < w) (nr : Nat) : (List.replicate nr (0 : Int)).length = nr ∧ ∀ x ∈ List.replicate nr (0 : Int), 0 ≤ x ∧ x < w := by
  refine ⟨by simp, fun h m => ?_⟩
  rw [(List.mem_replicate.mp m).2]
  omega
theorem placeS_ok {p : Prog} {w : Int} {hs : List (List Int)} (hw : 0 < w) {nr : Nat} {ps : List Int} {c : Int × Int} (h1 : ps.length = nr) (h2 : ∀ x ∈ ps, 0 ≤ x ∧ x < w) : (placeS p w hs ps c).length = nr ∧ ∀ x ∈ placeS p w hs ps c, 0 ≤ x ∧ x < w := by
  unfold placeS
  refine ⟨by rw [List.length_set]; exact h1, fun h m => ?_⟩
  rcases List.mem_or_eq_of_mem_set m with m | rfl
  · exact h2 h m
  · exact ⟨Int.emod_nonneg _ (by omega), Int.emod_lt_of_pos _ hw⟩
theorem places_ok {p : Prog} {w : Int} {hs : List (List Int)} (hw : 0 < w) {nr : Nat} : ∀ {cs : List (Int × Int)} {ps : List Int}, ps.length = nr → (∀ x ∈ ps, 0 ≤ x ∧ x < w) → (cs.foldl (placeS p w hs) ps).length = nr ∧ ∀ x ∈ cs.foldl (placeS p w hs) ps, 0 ≤ x ∧ x < w
  | [], _, h1, h2 => ⟨h1, h2⟩
  | c :: cs, ps, h1, h2 => places_ok hw (cs := cs) (placeS_ok hw h1 h2).1 (placeS_ok hw h1 h2).2
theorem Tr.Ok.lay {t : Tr} (ok : t.Ok) {picks : List Int} (hp : ∀ x ∈ picks, 0 ≤ x ∧ x < t.w) : (t.lay picks).Ok t.p.rows.length t.p.ws.length := by
  have hw : 0 < t.w := by have := ok.w; omega
  have z1 : ∀ c ∈ t.things.zip picks, 0 ≤ c.2 ∧ c.2 < t.w := fun c m => hp _ (List.of_mem_zip m).2
  have z2 : ∀ c ∈ t.joins.zip (picks.drop t.things.length), 0 ≤ c.2 ∧ c.2 < t.w := fun c m => hp _ (List.drop_subset _ _ (List.of_mem_zip m).2)
  have a := homesT_ok hw (homes0_ok hw t.p.ws.length).1 (homes0_ok hw t.p.ws.length).2 z1
  have b := place0_ok hw (zeros_ok hw t.p.rows.length).1 (zeros_ok hw t.p.rows.length).2 z2
  have c := places_ok (p := t.p) (hs := homesT t.p.ws.length (t.things.zip picks)) hw (cs := t.order) b.1 b.2
  exact ⟨ok.w, c.1, c.2, a.1, a.2⟩
def pickGo (w : Int) : Nat → List Int × Int → List Int × Int
  | 0, s => s
  | n + 1, s => ((pickGo w n s).1 ++ [(pickGo w n s).2 % w], (pickGo w n s).2 / w)
def Tr.many (t : Tr) : Nat := (t.things ++ t.joins).length
def Tr.picks (t : Tr) (x : Int) : List Int := (pickGo t.w t.many ([], x)).1
def prodI (w : Int) : Nat → Int
  | 0 => 1
  | n + 1 => min (prodI w n * w) 5001
def Tr.tries (t : Tr) : Int := prodI t.w t.many
/-! promises -/
/-! ### papers: halves, ways, books -/
inductive Half where
  | f (i : Int)
  | s (i j : Int)
  deriving DecidableEq
def hk : Half → List L2.Key
  | .f i => [.inr "first", .inl i]
  | .s i j => [.inr "second", .inl i, .inl j]
abbrev Lft := List (Half × Int)
def lcnt (l : Lft) (h : Half) : Int := match l.find? fun x => decide (x.1 = h) with
  | some x => x.2
  | none => 0
/-- halves of a way -/
def secs (p : List Int) : List Half := (List.range (p.length - 1)).map fun k => Half.s (p.getD k 0) (p.getD (k + 1) 0)
def fsts (sort : Str) (p : List Int) : List Half := (if sort = "row" then p.dropLast else p.drop 1).map Half.f
def halvesR (sort : Str) (p : List Int) : List Half := secs p ++ fsts sort p
def mostR (l : Lft) (hs : List Half) : Int := loL (hs.map fun h => lcnt l h / (hs.count h : Nat))
structure Way where
  sort : Str
  p : List Int
  m : Int
def Way.d (t : Way) : D := .tup [.str t.sort, pathD t.p, .int t.m]
def isWayP (rows : List Row) (L : Goes) (sort : Str) (p : List Int) : Prop :=
  2 ≤ p.length ∧ (∀ k, k < p.length - 1 → (p.getD k 0, p.getD (k + 1) 0) ∈ L.map (·.1)) ∧
    if sort = "row" then p.headD 0 = p.getLastD 0 else sort = "worth" ∧ (rowAt rows (p.headD 0)).use ≠ none ∧ (rowAt rows (p.headD 0)).use = (rowAt rows (p.getLastD 0)).use
instance (rows : List Row) (L : Goes) (sort : Str) (p : List Int) : Decidable (isWayP rows L sort p) := by
  unfold isWayP
  have : Decidable (∀ k, k < p.length - 1 → (p.getD k 0, p.getD (k + 1) 0) ∈ L.map (·.1)) := inferInstance
  infer_instance
def Way.fits (rows : List Row) (L : Goes) (l : Lft) (t : Way) : Prop := isWayP rows L t.sort t.p ∧ 1 ≤ t.m ∧ t.m ≤ mostR l (halvesR t.sort t.p)
instance (rows : List Row) (L : Goes) (l : Lft) (t : Way) : Decidable (t.fits rows L l) := by unfold Way.fits; infer_instance
/-! ways from a row on -/
def mu (ks : List (Int × Int)) (lf : List (List Int)) : Nat := (lf.map fun p => (ks.length + 1) ^ (42 - p.length)).sum
/-- an own exception class with a making of two values, kept as f1, f2 -/
structure Exc2 (P : Program) (w : World) (K : PySem.W.Frag) (mg : Str → Option Value) (base : Heap) (x : Str) (C : Addr) (f1 f2 : Str) : Prop where
  T : OexC K C
  g : mg x = some (.ref C)
  ex : ∃ (fI : Addr) (fd : FuncData) (ps : List Str), PySem.W.findIn K (.ref C) "__init__" = some (some (.ref fI)) ∧ PySem.W.typeIn K (.ref fI) = some (.type "function") ∧ FnOk P w K mg base CX0 1 fI fd ps (spI2 C f1 f2) ∧ Binds K fd ps []
/-! ### layings that are none -/
instance (w : Int) (h : List Int) : Decidable (HomeOk w h) := by unfold HomeOk; infer_instance
def placeOk (w x : Int) : Bool := decide (0 ≤ x ∧ x < w)
/-- what is refused first -/
def Lay.bad (l : Lay) (nr nw : Nat) : Option (Str × Int) :=
  if ¬ (2 ≤ l.wide ∧ l.wide ≤ 24) then some ("wide", 0)
  else if l.pl.length ≠ nr then some ("places", -1)
  else match l.pl.findIdx? fun x => !placeOk l.wide x with
    | some i => some ("places", (i : Nat))
    | none => if l.hm.length ≠ nw then some ("homes", -1) else match l.hm.findIdx? fun h => !decide (HomeOk l.wide h) with
      | some i => some ("homes", (i : Nat))
      | none => none
structure Lay.Sz (l : Lay) : Prop where
  pl : l.pl.length ≤ 60
  hm : l.hm.length ≤ 60
  h : ∀ h ∈ l.hm, h.length ≤ 60
theorem Lay.Ok.good {l : Lay} {nr nw : Nat} (k : l.Ok nr nw) : l.bad nr nw = none := by
  unfold Lay.bad
  have h1 : l.pl.findIdx? (fun x => !placeOk l.wide x) = none := List.findIdx?_eq_none_iff.mpr fun x m => by
    unfold placeOk
    rw [decide_eq_true (k.pv x m)]
    rfl
  have h2 : l.hm.findIdx? (fun h => !decide (HomeOk l.wide h)) = none := List.findIdx?_eq_none_iff.mpr fun x m => by
    rw [decide_eq_true (k.hv x m)]
    rfl
  rw [if_neg (fun z => z k.w), if_neg (fun z => z k.pl), h1]
  show (if l.hm.length ≠ nw then _ else _) = none
  rw [if_neg (fun z => z k.hl), h2]
theorem Lay.Ok.sz {l : Lay} {nr nw : Nat} (k : l.Ok nr nw) (h1 : nr ≤ 60) (h2 : nw ≤ 60) : l.Sz := ⟨by rw [k.pl]; exact h1, by rw [k.hl]; exact h2, fun h m => by have := (k.hv h m).1.2; omega⟩
/-! doors -/
/-! where the first bad one stands -/
section
variable {l : Lay} {nr nw i : Nat}
end
theorem cutA_headI {α : Type} {xs : List α} {i : Int} (h0 : 0 ≤ i) (h1 : i ≤ xs.length) : cutA xs none (some i) = xs.take i.toNat := by
  obtain ⟨n, rfl⟩ := Int.eq_ofNat_of_zero_le h0
  unfold cutA
  rw [HT.sIx_none, HT.sIx_nat, List.drop_zero, Nat.sub_zero, Nat.min_eq_left (by omega)]
  rfl
/-! ### what stands on a drum -/
abbrev Spot := Int × Int
def trackI (F : List Int) (p : Int) : Int := (F.count p : Nat)
def takenL (w : Int) (F : List Int) : List Int := (List.range w.toNat).map fun p => trackI F ((p : Nat) : Int)
def spotsOf : List Int → List Int → List Spot
  | _, [] => []
  | F, p :: ps => (p, trackI F p) :: spotsOf (F ++ [p]) ps
def homeSpots (F h : List Int) : List Spot := h.map fun p => (p, trackI F p)
def homesSpots : List Int → List (List Int) → List (List Spot)
  | _, [] => []
  | F, h :: hs => homeSpots F h :: homesSpots (F ++ h) hs
def Lay.rsp (l : Lay) : List Spot := spotsOf [] l.pl
def Lay.wsp (l : Lay) : List (List Spot) := homesSpots l.pl l.hm
def Lay.all (l : Lay) : List Int := l.pl ++ l.hm.flatten
def Lay.top (l : Lay) : Int := hiL (takenL l.wide l.all)
def wspD (h : List Spot) : D := .tup (h.map pairD)
theorem wspD_imm (h : List Spot) : Imm (wspD h) := imm_tup (imm_map pairD_imm)
def spotAt (rs : List Spot) (x : Int) : Spot := rs.getD x.toNat (0, 0)
def homeAt (ws : List (List Spot)) (v : Int) : List Spot := ws.getD v.toNat []
def whatL (rs : List Spot) (ws : List (List Spot)) : Row → List D
  | .op o v x => [.str o.s, wspD (homeAt ws v), pairD (spotAt rs x)]
  | .say x => [.str "say", pairD (spotAt rs x)]
  | .test a b => [.str "test", pairD (spotAt rs a), pairD (spotAt rs b)]
  | .stop => [.str "stop"]
def whatD (rs : List Spot) (ws : List (List Spot)) (r : Row) : D := .tup (whatL rs ws r)
theorem whatD_imm (rs : List Spot) (ws : List (List Spot)) (r : Row) : Imm (whatD rs ws r) := by
  unfold whatD
  cases r with
  | op o v x => exact imm_tup (imm_cons imm_str (imm_cons (wspD_imm _) (imm_cons (pairD_imm _) imm_nil)))
  | say x => exact imm_tup (imm_cons imm_str (imm_cons (pairD_imm _) imm_nil))
  | test a b => exact imm_tup (imm_cons imm_str (imm_cons (pairD_imm _) (imm_cons (pairD_imm _) imm_nil)))
  | stop => exact imm_tup (imm_cons imm_str imm_nil)
abbrev Cell := Spot × D
def worthD (n : Int) : D := .tup [.str "worth", .int n]
def cellD (c : Cell) : D := .tup [pairD c.1, c.2]
def rowCells (rs : List Spot) (ws : List (List Spot)) (rows : List Row) : List Cell := (rs.zip rows).map fun c => (c.1, whatD rs ws c.2)
def worthCells (ws : List (List Spot)) (ns : List Int) : List Cell := (ws.zip ns).flatMap fun c => c.1.map fun s => (s, worthD c.2)
def cellsOf (p : Prog) (l : Lay) : List Cell := rowCells l.rsp l.wsp p.rows ++ worthCells l.wsp p.ws
def imageL (p : Prog) (l : Lay) : List Cell := (cellsOf p l).mergeSort (leKD fun c => c.1)
def imageD (p : Prog) (l : Lay) : D := .tup [.int l.wide, pairD (spotAt l.rsp 0), .lst ((imageL p l).map cellD)]
def preSpots : Pre := fun ds Φ => ∃ (p : Prog) (l : Lay), ds = [p.d, l.d] ∧ p.Ok ∧ l.Ok p.rows.length p.ws.length ∧ Φ (.tup [.lst (l.rsp.map pairD), .lst (l.wsp.map wspD), .int l.top]) ds
def preCellOf : Pre := fun ds Φ => ∃ (r : Row) (rs : List Spot) (ws : List (List Spot)), ds = [r.d, .fz (rs.map pairD), .fz (ws.map wspD)] ∧ r.Ok ws.length rs.length ∧ Φ (whatD rs ws r) ds
def preTracks : Pre := fun ds Φ => ∃ (p : Prog) (l : Lay), ds = [p.d, l.d] ∧ p.Ok ∧ l.Ok p.rows.length p.ws.length ∧ Φ (.int l.top) ds
def preImage : Pre := fun ds Φ => ∃ (p : Prog) (l : Lay), ds = [p.d, l.d] ∧ p.Ok ∧ l.Ok p.rows.length p.ws.length ∧ Φ (imageD p l) ds
theorem spotsOf_len : ∀ (ps F : List Int), (spotsOf F ps).length = ps.length
  | [], _ => rfl
  | p :: ps, F => by rw [spotsOf, List.length_cons, List.length_cons, spotsOf_len ps]
theorem homesSpots_len : ∀ (hs : List (List Int)) (F : List Int), (homesSpots F hs).length = hs.length
  | [], _ => rfl
  | h :: hs, F => by rw [homesSpots, List.length_cons, List.length_cons, homesSpots_len hs]
theorem spotsOf_snoc : ∀ (ps F : List Int) (p : Int), spotsOf F (ps ++ [p]) = spotsOf F ps ++ [(p, trackI (F ++ ps) p)]
  | [], F, p => by simp [spotsOf]
  | q :: ps, F, p => by
    rw [List.cons_append, spotsOf, spotsOf_snoc ps, spotsOf, List.cons_append, List.append_assoc]
    rfl
theorem homesSpots_snoc : ∀ (hs : List (List Int)) (F : List Int) (h : List Int), homesSpots F (hs ++ [h]) = homesSpots F hs ++ [homeSpots (F ++ hs.flatten) h]
  | [], F, h => by simp [homesSpots]
  | g :: hs, F, h => by
    rw [List.cons_append, homesSpots, homesSpots_snoc hs, homesSpots, List.cons_append, List.flatten_cons, List.append_assoc]
theorem takenL_len (w : Int) (F : List Int) : (takenL w F).length = w.toNat := by
  unfold takenL
  rw [List.length_map, List.length_range]
theorem takenL_get {w : Int} {F : List Int} {p : Int} (h0 : 0 ≤ p) (h1 : p < w) : (takenL w F)[p.toNat]? = some (trackI F p) := by
  unfold takenL
  rw [List.getElem?_map, List.getElem?_range (by omega)]
  show some (trackI F ((p.toNat : Nat) : Int)) = _
  rw [show ((p.toNat : Nat) : Int) = p by omega]
theorem trackI_app (F : List Int) (p q : Int) : trackI (F ++ [p]) q = trackI F q + if q = p then 1 else 0 := by
  unfold trackI
  rw [List.count_append, List.count_singleton]
  by_cases h : q = p
  · rw [if_pos h, h]
    simp
  · rw [if_neg h, if_neg (by simpa using fun z => h z.symm)]
    simp
theorem takenL_step {w : Int} {F : List Int} {p : Int} (h0 : 0 ≤ p) (h1 : p < w) : (takenL w F).set p.toNat (trackI F p + 1) = takenL w (F ++ [p]) := by
  apply List.ext_getElem?
  intro j
  rw [List.getElem?_set, takenL_len]
  by_cases hj : j < w.toNat
  · have e1 := takenL_get (w := w) (F := F ++ [p]) (p := (j : Nat)) (by omega) (by omega)
    have e2 := takenL_get (w := w) (F := F) (p := (j : Nat)) (by omega) (by omega)
    rw [Int.toNat_natCast] at e1 e2
    rw [e1, trackI_app]
    by_cases q : p.toNat = j
    · rw [if_pos q, if_pos (by omega), if_pos (by omega)]
      rw [show ((j : Nat) : Int) = p by omega]
    · rw [if_neg q, e2, if_neg (by omega), Int.add_zero]
  · rw [List.getElem?_eq_none (l := takenL w (F ++ [p])) (by rw [takenL_len]; omega), List.getElem?_eq_none (l := takenL w F) (by rw [takenL_len]; omega)]
    split
    · omega
    · rfl
theorem takenL_nil (w : Int) : takenL w [] = List.replicate w.toNat 0 := by
  apply List.ext_getElem
  · rw [takenL_len, List.length_replicate]
  · intro i h1 h2
    rw [takenL_len] at h1
    have e := takenL_get (w := w) (F := []) (p := (i : Nat)) (by omega) (by omega)
    rw [Int.toNat_natCast] at e
    rw [List.getElem?_eq_getElem (by rw [takenL_len]; exact h1)] at e
    rw [Option.some.inj e, List.getElem_replicate]
    rfl
theorem spotAt_get {rs : List Spot} {x : Int} (h : 0 ≤ x ∧ x < rs.length) : atI (rs.map pairD) x = some (pairD (spotAt rs x)) := by
  refine atI_map h.1 ?_
  unfold spotAt
  rw [List.getD_eq_getElem?_getD, List.getElem?_eq_getElem (by omega)]
  rfl
theorem homeAt_get {ws : List (List Spot)} {x : Int} (h : 0 ≤ x ∧ x < ws.length) : atI (ws.map wspD) x = some (wspD (homeAt ws x)) := by
  refine atI_map h.1 ?_
  unfold homeAt
  rw [List.getD_eq_getElem?_getD, List.getElem?_eq_getElem (by omega)]
  rfl
theorem Lay.rsp_len (l : Lay) : l.rsp.length = l.pl.length := spotsOf_len _ _
theorem Lay.wsp_len (l : Lay) : l.wsp.length = l.hm.length := homesSpots_len _ _
theorem homesSpots_each : ∀ (hs : List (List Int)) (F : List Int) (i : Nat) (h : List Spot), (homesSpots F hs)[i]? = some h → ∃ g, hs[i]? = some g ∧ h.length = g.length
  | [], _, _, _, e => by simp [homesSpots] at e
  | g :: hs, F, 0, h, e => by
    rw [homesSpots, List.getElem?_cons_zero] at e
    cases e
    exact ⟨g, rfl, by unfold homeSpots; rw [List.length_map]⟩
  | g :: hs, F, i + 1, h, e => by
    rw [homesSpots, List.getElem?_cons_succ] at e
    exact homesSpots_each hs (F ++ g) i h e
theorem cellD_imm {c : Cell} (h : Imm c.2) : Imm (cellD c) := imm_tup (imm_cons (pairD_imm _) (imm_cons h imm_nil))
theorem worthD_imm (n : Int) : Imm (worthD n) := imm_tup (imm_cons imm_str (imm_cons imm_int imm_nil))
theorem cellsOf_imm {p : Prog} {l : Lay} : ∀ c ∈ cellsOf p l, Imm c.2 := fun c m => by
  rcases List.mem_append.mp m with m | m
  · obtain ⟨x, _, rfl⟩ := List.mem_map.mp m
    exact whatD_imm _ _ _
  · obtain ⟨x, _, m⟩ := List.mem_flatMap.mp m
    obtain ⟨s, _, rfl⟩ := List.mem_map.mp m
    exact worthD_imm _
/-- the key of an item -/
def keyOfD : D → Int × Int
  | .tup (.tup [.int a, .int b] :: _) => (a, b)
  | _ => (0, 0)
theorem cells_sorted (cs : List Cell) : (cs.map cellD).mergeSort (leKD keyOfD) = (cs.mergeSort (leKD fun c => c.1)).map cellD := (List.map_mergeSort (f := cellD) (r := leKD fun c : Cell => c.1) (s := leKD keyOfD) fun a _ b _ => rfl).symm
theorem Lay.wsp_each {l : Lay} {nr nw : Nat} (ok : l.Ok nr nw) {h : List Spot} (m : h ∈ l.wsp) : h.length ≤ 3 := by
  obtain ⟨i, hi⟩ := List.mem_iff_getElem?.mp m
  obtain ⟨g, hg, e⟩ := homesSpots_each _ _ _ _ hi
  rw [e]
  exact (ok.hv g (List.mem_of_getElem? hg)).1.2
theorem worthCells_len : ∀ {zs : List (List Spot × Int)}, (∀ c ∈ zs, c.1.length ≤ 3) → (zs.flatMap fun c => c.1.map fun s => (s, worthD c.2)).length ≤ 3 * zs.length
  | [], _ => Nat.le_refl _
  | c :: zs, h => by
    have h1 := worthCells_len (zs := zs) fun c m => h c (List.mem_cons_of_mem _ m)
    have h2 := h c List.mem_cons_self
    rw [List.flatMap_cons, List.length_append, List.length_map, List.length_cons]
    omega
/-! ### what stands there, by own laying out -/
def preLLayT : Pre := fun ds Φ => ∃ (g : Dice) (p : Prog) (most : Int), ds = [g.d, p.d, .int most] ∧ g.Ok ∧ p.Ok ∧ 1 ≤ most ∧ most ≤ 3 ∧ ∀ (l : Lay) (g' : Dice), l.Ok p.rows.length p.ws.length → (∀ h ∈ l.hm, (h.length : Int) ≤ most) → g'.Ok → Φ (.tup [.int l.wide, ptD l.pl, .tup (l.hm.map homeD)]) [g'.d, p.d, .int most]
theorem spotsOf_take {ps : List Int} {i : Nat} {q : Int} (h : ps[i]? = some q) : spotsOf [] (ps.take (i + 1)) = spotsOf [] (ps.take i) ++ [((q, (((ps.take i).count q : Nat) : Int)) : Spot)] := by
  rw [List.take_add_one, h]
  show spotsOf [] (ps.take i ++ [q]) = _
  rw [spotsOf_snoc]
  rfl
/-- what a row's cell holds behind its word -/
def wa (rs : List Spot) (ws : List (List Spot)) (r : Row) : List D := (whatL rs ws r).drop 1
theorem whatD_wa (rs : List Spot) (ws : List (List Spot)) (r : Row) : whatD rs ws r = .tup (.str r.nm :: wa rs ws r) := by cases r <;> rfl
theorem wa_len {rs : List Spot} {ws : List (List Spot)} {r : Row} : (wa rs ws r).length = r.args.length := by cases r <;> rfl
theorem wa_at {rs : List Spot} {ws : List (List Spot)} {r : Row} {j : Nat} {a : Int} (h : r.args[j]? = some a) : (wa rs ws r)[j]? = some (if (j == 0 && r.isOp) = true then wspD (homeAt ws a) else pairD (spotAt rs a)) := by
  cases r with
  | op o v x =>
    match j, h with
    | 0, h => cases h; rfl
    | 1, h => cases h; rfl
  | say x =>
    match j, h with
    | 0, h => cases h; rfl
  | test x y =>
    match j, h with
    | 0, h => cases h; rfl
    | 1, h => cases h; rfl
  | stop => cases h
theorem wa_imm {rs : List Spot} {ws : List (List Spot)} {r : Row} : ∀ x ∈ wa rs ws r, Imm x := by
  cases r with
  | op o v x => exact imm_cons (wspD_imm _) (imm_cons (pairD_imm _) imm_nil)
  | say x => exact imm_cons (pairD_imm _) imm_nil
  | test a b => exact imm_cons (pairD_imm _) (imm_cons (pairD_imm _) imm_nil)
  | stop => exact imm_nil
/-- a cell's place in the order -/
def toO (c : Cell × Nat) : O := .t [.t [.i c.1.1.1, .i c.1.1.2], .i (c.2 : Nat)]
abbrev leC : Cell → Cell → Bool := leKD fun c => c.1
theorem leC_iff {a b : Cell} : leC a b = true ↔ (a.1.1 < b.1.1 ∨ (a.1.1 = b.1.1 ∧ a.1.2 ≤ b.1.2)) := by
  unfold leC leKD
  rw [decide_eq_true_eq]
theorem leC_tr (a b c : Cell) (h1 : leC a b = true) (h2 : leC b c = true) : leC a c = true := by
  rw [leC_iff] at *
  omega
theorem leC_tot (a b : Cell) : (leC a b || leC b a) = true := by
  rw [Bool.or_eq_true, leC_iff, leC_iff]
  omega
def ordC (cs : List Cell) : List (Cell × Nat) := cs.zipIdx.mergeSort (List.zipIdxLE leC)
theorem ordC_fst (cs : List Cell) : (ordC cs).map (·.1) = cs.mergeSort leC := List.mergeSort_zipIdx
theorem ordC_perm (cs : List Cell) : (ordC cs).Perm cs.zipIdx := List.mergeSort_perm _ _
theorem toO_le {a b : Cell × Nat} (h : List.zipIdxLE leC a b = true) : leO (toO a) (toO b) = true := by
  unfold List.zipIdxLE at h
  unfold leO
  rw [Bool.not_eq_true', Bool.eq_false_iff, Ne, ltO_iff]
  have e : cmpO (toO b) (toO a) = ((cmpI b.1.1.1 a.1.1.1).then ((cmpI b.1.1.2 a.1.1.2).then .eq)).then ((cmpI (b.2 : Nat) (a.2 : Nat)).then .eq) := by
    unfold toO
    simp only [cmpO, cmpOs]
  rw [e]
  have hk : (a.1.1.1 < b.1.1.1 ∨ (a.1.1.1 = b.1.1.1 ∧ (a.1.1.2 < b.1.1.2 ∨ (a.1.1.2 = b.1.1.2 ∧ a.2 ≤ b.2)))) := by
    split at h
    · next h1 =>
      rw [leC_iff] at h1
      split at h
      · next h2 =>
        rw [leC_iff] at h2
        have := of_decide_eq_true h
        omega
      · next h2 =>
        rw [leC_iff] at h2
        omega
    · cases h
  unfold cmpI
  rcases hk with h1 | ⟨h1, h2 | ⟨h2, h3⟩⟩
  · rw [if_neg (by omega), if_neg (by omega)]
    intro z; cases z
  · rw [if_pos (by omega), if_neg (by omega), if_neg (by omega)]
    intro z; cases z
  · rw [if_pos (by omega), if_pos (by omega)]
    rcases Nat.lt_or_eq_of_le h3 with h4 | h4
    · rw [if_neg (by omega), if_neg (by omega)]
      intro z; cases z
    · rw [if_pos (by omega)]
      intro z; cases z
theorem order_eq (cs : List Cell) : srtO (cs.zipIdx.map toO) = (ordC cs).map toO := by
  refine (srtO_uniq ((ordC_perm cs).map toO) ?_).symm
  rw [List.pairwise_map]
  exact (List.pairwise_mergeSort (List.zipIdxLE_trans leC_tr) (List.zipIdxLE_total leC_tot) cs.zipIdx).imp fun h => toO_le h
theorem toO_srtb (cs : List Cell) : Srtb false 60 (cs.zipIdx.map toO) := by
  refine ⟨fun o m => ?_, fun o m q k => ?_, fun o m => ?_⟩
  · obtain ⟨c, _, rfl⟩ := List.mem_map.mp m
    rfl
  · obtain ⟨c, _, rfl⟩ := List.mem_map.mp m
    obtain ⟨c', _, rfl⟩ := List.mem_map.mp k
    rfl
  · obtain ⟨c, _, rfl⟩ := List.mem_map.mp m
    show 2 ≤ 60
    decide
def ordD (c : Cell × Nat) : D := .tup [pairD c.1.1, .int (c.2 : Nat)]
theorem toO_map (cs : List (Cell × Nat)) : (cs.map toO).map oD = cs.map ordD := by
  rw [List.map_map]
  exact List.map_congr_left fun c _ => rfl
theorem pair_pm (n : Nat) (s : Spot) : Pm (n + 1) (pairD s) := .tup (by show 2 < 1000000; decide) fun x mx => by
  simp at mx
  rcases mx with rfl | rfl <;> exact .int
theorem wsp_pm (n : Nat) {h : List Spot} (hl : h.length < 1000000) : Pm (n + 2) (wspD h) := .tup (by rw [List.length_map]; exact hl) fun x mx => by
  obtain ⟨s, _, rfl⟩ := List.mem_map.mp mx
  exact pair_pm n s
theorem what_pm {rs : List Spot} {ws : List (List Spot)} (h : ∀ x ∈ ws, x.length < 1000000) (r : Row) : Pm 3 (whatD rs ws r) := by
  have hw : ∀ v, (homeAt ws v).length < 1000000 := fun v => by
    unfold homeAt
    rw [List.getD_eq_getElem?_getD]
    cases e : ws[v.toNat]? with
    | none => show 0 < 1000000; decide
    | some x => exact h x (List.mem_of_getElem? e)
  unfold whatD
  cases r with
  | op o v x =>
    refine .tup (by show 3 < 1000000; decide) fun y m => ?_
    simp [whatL] at m
    rcases m with rfl | rfl | rfl
    · exact .str
    · exact wsp_pm 0 (hw v)
    · exact pair_pm 1 _
  | say x =>
    refine .tup (by show 2 < 1000000; decide) fun y m => ?_
    simp [whatL] at m
    rcases m with rfl | rfl
    · exact .str
    · exact pair_pm 1 _
  | test a b =>
    refine .tup (by show 3 < 1000000; decide) fun y m => ?_
    simp [whatL] at m
    rcases m with rfl | rfl | rfl
    · exact .str
    · exact pair_pm 1 _
    · exact pair_pm 1 _
  | stop =>
    refine .tup (by show 1 < 1000000; decide) fun y m => ?_
    simp [whatL] at m
    rw [m]
    exact .str
theorem cells_pm {p : Prog} {l : Lay} (ok : l.Ok p.rows.length p.ws.length) : ∀ c ∈ cellsOf p l, Pm 4 (cellD c) := by
  intro c m
  have hw : ∀ x ∈ l.wsp, x.length < 1000000 := fun x mx => by have := Lay.wsp_each ok mx; omega
  rcases List.mem_append.mp m with m | m
  · obtain ⟨x, _, rfl⟩ := List.mem_map.mp m
    refine .tup (by show 2 < 1000000; decide) fun y my => ?_
    simp at my
    rcases my with rfl | rfl
    · exact pair_pm 2 _
    · exact what_pm hw _
  · obtain ⟨x, _, m⟩ := List.mem_flatMap.mp m
    obtain ⟨s, _, rfl⟩ := List.mem_map.mp m
    refine .tup (by show 2 < 1000000; decide) fun y my => ?_
    simp at my
    rcases my with rfl | rfl
    · exact pair_pm 2 _
    · refine .tup (by show 2 < 1000000; decide) fun z mz => ?_
      simp at mz
      rcases mz with rfl | rfl
      · exact .str
      · exact .int
theorem cells_len {p : Prog} {l : Lay} (okp : p.Ok) (ok : l.Ok p.rows.length p.ws.length) : (cellsOf p l).length ≤ 100 := by
  have h1 : (rowCells l.rsp l.wsp p.rows).length ≤ 40 := by
    unfold rowCells
    rw [List.length_map, List.length_zip]
    have := okp.rl
    omega
  have h2 := worthCells_len (zs := l.wsp.zip p.ws) fun c m => Lay.wsp_each ok (List.of_mem_zip m).1
  have h3 : (l.wsp.zip p.ws).length ≤ 8 := by
    rw [List.length_zip]
    have := okp.wl
    omega
  have h4 : (cellsOf p l).length = (rowCells l.rsp l.wsp p.rows).length + (worthCells l.wsp p.ws).length := List.length_append
  have h5 : (worthCells l.wsp p.ws).length ≤ 3 * (l.wsp.zip p.ws).length := h2
  omega
theorem image_pm {p : Prog} {l : Lay} (okp : p.Ok) (ok : l.Ok p.rows.length p.ws.length) : Pm 6 (imageD p l) := by
  refine .tup (by show 3 < 1000000; decide) fun x m => ?_
  simp at m
  rcases m with rfl | rfl | rfl
  · exact .int
  · exact pair_pm 4 _
  · have pm : (imageL p l).Perm (cellsOf p l) := List.mergeSort_perm _ _
    refine .lst (by rw [List.length_map, pm.length_eq]; have := cells_len okp ok; omega) fun x m => ?_
    obtain ⟨c, mc, rfl⟩ := List.mem_map.mp m
    exact (cells_pm ok c (pm.mem_iff.mp mc)).up 4 (by decide)
theorem wkE_set : ∀ {δ : Env} {i : Nat} {d e : D}, δ[i]? = some (some d) → Wk d e → WkE δ (δ.set i (some e))
  | [], _, _, _, h, _ => nomatch h
  | x :: δ, 0, d, e, h, w => by
    cases h
    exact .so w wkE_refl
  | x :: δ, i + 1, d, e, h, w => by
    have := wkE_set (δ := δ) h w
    cases x with
    | none => exact .no this
    | some y => exact .so wk_refl this
theorem zipIdx_D (cs : List Cell) : (List.range cs.length).map (fun i => ordD (cs.getD i ((0, 0), .non), i)) = cs.zipIdx.map ordD := by
  apply List.ext_getElem?
  intro i
  rw [List.getElem?_map, List.getElem?_map, List.getElem?_zipIdx]
  by_cases h : i < cs.length
  · rw [List.getElem?_range h, List.getElem?_eq_getElem h]
    simp [List.getD_eq_getElem?_getD, List.getElem?_eq_getElem h]
  · rw [List.getElem?_eq_none (by simp; omega), List.getElem?_eq_none (by omega)]
    rfl
theorem ordC_get {cs : List Cell} {c : Cell × Nat} (h : c ∈ ordC cs) : cs[c.2]? = some c.1 := List.mem_zipIdx_iff_getElem?.mp ((ordC_perm cs).mem_iff.mp h)
section
variable {P : Program} {w : World} {K : PySem.W.Frag} {mg : Str → Option Value} {base : Heap}
/-- a law that makes no lambda itself, while defs that it calls do -/
theorem okL3 {x qual : Str} {st : Stmt} {f : Addr} {fd : FuncData} {N : List Str} {a : Str} {k : Nat} {pre : Pre} (tbs : List (Addr × Str)) (F : L2.Fun K x qual st f fd) (S : FnScope N [a] (defScope st)) (hps : 1 ≤ N.length)
    (hbody : ∀ (X : Cx) (f : Fm) (d : D) (Φ : D → List D → Prop), Bd X N (defScope st) → (∀ x, X.fn x = true) → Jn X P w K mg base → Room k X.A → f.tb = tbs → f.pn = [] → pre [d] Φ →
      DB X f (startD N [d]) (defBody st) { nx := fun _ => False, rt := fun r δ => ∃ ds', Φ r ds' }) : FnOk P w K mg base CX0 (k + 1) f fd [a] (spL2 K tbs pre) := by
  refine F.ok S (fun vs H Q E ⟨v, ns, e, _⟩ => by rw [e]; rfl) fun cdv A outer s H vs Q E hr hsp => ?_
  obtain ⟨sa, ns, rfl, sq, tabs, Φ, p, q⟩ := hsp
  have iz : ∀ x ∈ ns.map D.int, Imm x := fun x m => by
    obtain ⟨i, _, rfl⟩ := List.mem_map.mp m
    exact imm_int
  have zi : ∀ c ∈ (ns.map V.int).zip (ns.map D.int), OwnE K H c.1 c.2 fun _ => False := fun c m => by
    rw [List.zip_map'] at m
    obtain ⟨i, _, rfl⟩ := List.mem_map.mp m
    exact OwnE.int
  have core : ∀ (d0 : D) (G : Fp), OwnE K H (.ref sa) d0 G → (∀ p ∈ tbs, ¬ G p.1) → ∃ fm : Fm, Rp K fm H (L2.start N [.ref sa]) (startD N [d0]) [] ∧ fm.tb = tbs ∧ fm.pn = [] := fun d0 G ow hG => by
    have sp : Sep (OwnE K H) ([V.ref sa].zip [d0]) G := ⟨G, fun _ => False, ow, trivial, fun _ _ z => z, fun _ z => z, fun _ z => z.elim⟩
    have R0 := Rp.start (N := N) (pm := [false]) (vs := [.ref sa]) (ds := [d0]) rfl (by simpa using hps) rfl sp
    refine ⟨⟨H, G, [], fun _ => .non, tbs⟩, ?_, rfl, rfl⟩
    obtain ⟨F, s1, s2⟩ := R0.own
    refine ⟨R0.len, R0.has, ⟨F, s1, fun x z => s2 x z⟩, (fun c m => nomatch m), ⟨fun b u h _ _ => h, fun p m => LamX.TabS.nil (tabs p m), fun p m => ⟨hG p m, ?_⟩⟩, Tx.refl H, fun i m => nomatch m⟩
    show H p.1 ≠ none
    rw [tabs p m]
    exact fun z => nomatch z
  have fin : ∀ (d0 : D) (fm : Fm), Rp K fm H (L2.start N [.ref sa]) (startD N [d0]) [] →
      DB (cxOf CX0 P w K mg base N qual (defScope st) f cdv A outer s H E).nox fm (startD N [d0]) (defBody st) { nx := fun _ => False, rt := fun r δ => ∃ ds', Φ r ds' } → _ := fun d0 fm R h =>
    (⟨_, h.h, [], R, fun _ _ _ z => z.elim, fun r δ' v' σ' H' ⟨ds', k⟩ R => by
      obtain ⟨F, o⟩ : ∃ F, OwnE K H' v' r F := by
        obtain ⟨F', s, _⟩ := R.own
        have s2 : Sep (OwnE K H') ((v', r) :: cells σ' δ') F' := s
        obtain ⟨F1, F2, h1, _⟩ := s2
        exact ⟨F1, h1⟩
      exact q r ds' v' H' F k o, fun _ _ _ z => z.elim, fun _ _ _ z => z.elim⟩ : ∃ t, PSs (cxOf CX0 P w K mg base N qual (defScope st) f cdv A outer s H E).nox (defBody st) t ∧ t { nx := fun _ H' => Q .non H', rt := Q } (L2.start N [.ref sa]) H)
  have body := fun (fm : Fm) (e1 : fm.tb = tbs) (e3 : fm.pn = []) =>
    hbody (cxOf CX0 P w K mg base N qual (defScope st) f cdv A outer s H E).nox fm (.fz (ns.map .int)) Φ ⟨rfl, rfl, rfl, S.nd, PassesOwn.never⟩ (fun _ => rfl) ⟨rfl, rfl, rfl, rfl, rfl⟩ hr e1 e3 p
  by_cases hl : H sa = some (.lst (ns.map V.int))
  · have ow : OwnE K H (.ref sa) (.lst (ns.map .int)) (fun b => b = sa) := OwnE.node (F' := fun _ => False) hl (by simp [kids]) (Sep.freeAll zi) (fun _ z => z.elim) fun _ => ⟨rfl, fun z => z⟩
    obtain ⟨fm, R, e1, e3⟩ := core _ _ ow fun p hp z => by
      have := tabs p hp
      rw [z, hl] at this
      cases this
    exact fin _ fm R (db_frz (i := 0) (π := []) rfl rfl iz (body fm e1 e3))
  · have fz : Fzl K H sa (ns.map V.int) := by
      rcases sq with (h | h) | h
      · exact absurd h hl
      · exact .inl h
      · exact .inr h
    have ow : OwnE K H (.ref sa) (.fz (ns.map .int)) (fun _ => False) := OwnE.node (F' := fun _ => False) fz (by simp [kids]) (Sep.freeAll zi) (fun _ z => z) (fun z => nomatch z)
    obtain ⟨fm, R, e1, e3⟩ := core _ _ ow fun p hp z => z
    exact fin _ fm R (body fm e1 e3)
end
/-! ### lists of so many -/
theorem ux1 {α : Type} {us : List α} (hl : us.length = 1) : ∃ a : α, us = [a] := by
  match us, hl with
  | [a], _ => exact ⟨a, rfl⟩
theorem ux2 {α : Type} {us : List α} (hl : us.length = 2) : ∃ a b : α, us = [a, b] := by
  match us, hl with
  | [a, b], _ => exact ⟨a, b, rfl⟩
theorem ux3 {α : Type} {us : List α} (hl : us.length = 3) : ∃ a b c : α, us = [a, b, c] := by
  match us, hl with
  | [a, b, c], _ => exact ⟨a, b, c, rfl⟩
/-- what the bodies come to -/
def AllMk : Prop := ∀ {l : PySem.W.OpenLaw} {w : World} {K : PySem.W.Frag} {h : Heap} {mg : Str → Option Value} {fa : Addr} {c_image P_image : Addr} {t_MOST_NUMBER : Tok} {t_MOST_WORTHS : Tok} {t_MOST_ROWS : Tok} {t_LEAST_WIDE : Tok} {t_MOST_WIDE : Tok} {t_MOST_HOMES : Tok} {a_SHAPES : Addr} {es_SHAPES : List DictEntry} {n_SHAPES : Nat} (X : K.In h) (G : h.Ns mainGlobals mg) (hfa : mg "law" = some (.ref fa))
    (F_is_number : FnAt K "is_number" s_is_number)
    (F_why_row : FnAt K "why_row" s_why_row)
    (F_need_program : FnAt K "need_program" s_need_program)
    (F_need_wide : FnAt K "need_wide" s_need_wide)
    (F_is_home : FnAt K "is_home" s_is_home)
    (F_need_laying : FnAt K "need_laying" s_need_laying)
    (F_spots : FnAt K "spots" s_spots)
    (F_cell_of : FnAt K "cell_of" s_cell_of)
    (F_image : FnAtC K "image" s_image c_image P_image)
    (F_tracks : FnAt K "tracks" s_tracks)
    (F_l_dice : FnAt K "_law_dice" s_l_dice)
    (F_l_next : FnAt K "_law_next" s_l_next)
    (F_l_like : FnAt K "_law_like" s_l_like)
    (F_l_straight : FnAt K "_law_straight" s_l_straight)
    (F_l_fork : FnAt K "_law_fork" s_l_fork)
    (F_l_body : FnAt K "_law_body" s_l_body)
    (F_l_mixed : FnAt K "_law_mixed" s_l_mixed)
    (F_l_stopping : FnAt K "_law_stopping" s_l_stopping)
    (F_l_any : FnAt K "_law_any" s_l_any)
    (F_l_laying : FnAt K "_law_laying" s_l_laying)
    (F_law : FnAt K "law" s_law)
    (b_isinstance : PySem.W.nsIn K mainGlobals "isinstance" = some none)
    (b_int : PySem.W.nsIn K mainGlobals "int" = some none)
    (b_bool : PySem.W.nsIn K mainGlobals "bool" = some none)
    (b_tuple : PySem.W.nsIn K mainGlobals "tuple" = some none)
    (b_str : PySem.W.nsIn K mainGlobals "str" = some none)
    (b_len : PySem.W.nsIn K mainGlobals "len" = some none)
    (b_zip : PySem.W.nsIn K mainGlobals "zip" = some none)
    (b_enumerate : PySem.W.nsIn K mainGlobals "enumerate" = some none)
    (b_list : PySem.W.nsIn K mainGlobals "list" = some none)
    (b_range : PySem.W.nsIn K mainGlobals "range" = some none)
    (b_sum : PySem.W.nsIn K mainGlobals "sum" = some none)
    (b_sorted : PySem.W.nsIn K mainGlobals "sorted" = some none)
    (b_max : PySem.W.nsIn K mainGlobals "max" = some none)
    (b_min : PySem.W.nsIn K mainGlobals "min" = some none)
    (b_set : PySem.W.nsIn K mainGlobals "set" = some none)
    (hT_image : h.get? P_image = some { cls := .none, data := .fields #[] })
    (v_MOST_NUMBER : PySem.W.nsIn K mainGlobals "MOST_NUMBER" = some (some (.int 1000000 t_MOST_NUMBER)))
    (v_MOST_WORTHS : PySem.W.nsIn K mainGlobals "MOST_WORTHS" = some (some (.int 8 t_MOST_WORTHS)))
    (v_MOST_ROWS : PySem.W.nsIn K mainGlobals "MOST_ROWS" = some (some (.int 40 t_MOST_ROWS)))
    (v_LEAST_WIDE : PySem.W.nsIn K mainGlobals "LEAST_WIDE" = some (some (.int 2 t_LEAST_WIDE)))
    (v_MOST_WIDE : PySem.W.nsIn K mainGlobals "MOST_WIDE" = some (some (.int 24 t_MOST_WIDE)))
    (v_MOST_HOMES : PySem.W.nsIn K mainGlobals "MOST_HOMES" = some (some (.int 3 t_MOST_HOMES)))
    (k_SHAPES : PySem.W.nsIn K mainGlobals "SHAPES" = some (some (.ref a_SHAPES))) (l_SHAPES : K.lookup a_SHAPES = some ⟨.type "dict", none, .dict ⟨es_SHAPES⟩ n_SHAPES, #[]⟩) (lit_SHAPES : PySem.W.KeysLit w.params es_SHAPES) (low_SHAPES : (a_SHAPES == sysModules) = false) (tab_SHAPES : KdEs es_SHAPES shapes), LamX.LawAtS l w K CX0 10 63 "_law_script" mg fa h
theorem walkL {l : PySem.W.OpenLaw} {q : Program} {loose : List Str} {XP : (Str → Option Value) → Heap → Prop} {YP : World → Heap → Prop} {d : DefRec} {K : Params → PySem.W.Frag} (hn : l.most = some 63) (hdf : d.params.defaults = [])
    (hY : ∀ (w : World) (h : Heap), YP w h → (K w.params).In h)
    (F : ∀ (w : World) (mg : Str → Option Value) (fa : Addr) (h : Heap), YP w h → (K w.params).In h → h.Ns mainGlobals mg → mg d.name = some (.ref fa) → LamX.LawAtS l w (K w.params) CX0 10 63 "_law_script" mg fa h) :
    PySem.W.WalkO q loose XP YP l.row.toRowW d [] (fun f vs => PySem.call f vs) :=
  LamX.walk_ofTs (n := 63) (k := 10) (x := "_law_script") (CX := fun _ => CX0) hn (by decide) hdf ⟨rfl, by decide, by decide⟩ hY F fun _ _ _ _ _ z => z
end Dl
open PySem PySem.W PyProof.Rows in
set_option maxRecDepth 100000 in
set_option maxHeartbeats 0 in
open_top Dl.top_of for PySem.Challenge.rw_drumlay_k15_what_stands_there
open PySem PySem.W PyProof.Rows in
set_option maxRecDepth 100000 in
set_option maxHeartbeats 0 in
theorem Dl.main_of (hall : Dl.AllMk) : PySem.Challenge.rw_drumlay_k15_what_stands_there.Holds := by
  refine Dl.top_of ?_
  k_fill
  refine Dl.walkL (l := PySem.Challenge.rw_drumlay_k15_what_stands_there) rfl rfl (fun w h Y => PySem.W.km_in_of Y) ?F
  case F =>
    intro w mg fa h Y KX G hmg
    refine' hall KX G hmg (Dl.fnAt_mk ?a_is_number ?l_is_number ?c_is_number ?k_is_number) (Dl.fnAt_mk ?a_why_row ?l_why_row ?c_why_row ?k_why_row) (Dl.fnAt_mk ?a_need_program ?l_need_program ?c_need_program ?k_need_program) (Dl.fnAt_mk ?a_need_wide ?l_need_wide ?c_need_wide ?k_need_wide) (Dl.fnAt_mk ?a_is_home ?l_is_home ?c_is_home ?k_is_home) (Dl.fnAt_mk ?a_need_laying ?l_need_laying ?c_need_laying ?k_need_laying) (Dl.fnAt_mk ?a_spots ?l_spots ?c_spots ?k_spots) (Dl.fnAt_mk ?a_cell_of ?l_cell_of ?c_cell_of ?k_cell_of) (Dl.fnAtC_mk ?a_image ?l_image ?c_image ?k_image ?lc_image ?v11_image ?hd_image ?lp_image) (Dl.fnAt_mk ?a_tracks ?l_tracks ?c_tracks ?k_tracks) (Dl.fnAt_mk ?a_l_dice ?l_l_dice ?c_l_dice ?k_l_dice) (Dl.fnAt_mk ?a_l_next ?l_l_next ?c_l_next ?k_l_next) (Dl.fnAt_mk ?a_l_like ?l_l_like ?c_l_like ?k_l_like) (Dl.fnAt_mk ?a_l_straight ?l_l_straight ?c_l_straight ?k_l_straight) (Dl.fnAt_mk ?a_l_fork ?l_l_fork ?c_l_fork ?k_l_fork) (Dl.fnAt_mk ?a_l_body ?l_l_body ?c_l_body ?k_l_body) (Dl.fnAt_mk ?a_l_mixed ?l_l_mixed ?c_l_mixed ?k_l_mixed) (Dl.fnAt_mk ?a_l_stopping ?l_l_stopping ?c_l_stopping ?k_l_stopping) (Dl.fnAt_mk ?a_l_any ?l_l_any ?c_l_any ?k_l_any) (Dl.fnAt_mk ?a_l_laying ?l_l_laying ?c_l_laying ?k_l_laying) (Dl.fnAt_mk ?a_law ?l_law ?c_law ?k_law) ?b_isinstance ?b_int ?b_bool ?b_tuple ?b_str ?b_len ?b_zip ?b_enumerate ?b_list ?b_range ?b_sum ?b_sorted ?b_max ?b_min ?b_set ?hT_image ?v_MOST_NUMBER ?v_MOST_WORTHS ?v_MOST_ROWS ?v_LEAST_WIDE ?v_MOST_WIDE ?v_MOST_HOMES ?k_SHAPES ?l_SHAPES ?lit_SHAPES ?low_SHAPES ?tab_SHAPES
    (case a_is_number => k_is)
    (case l_is_number => k_is)
    (case c_is_number => k_is)
    (case k_is_number => k_is)
    (case a_why_row => k_is)
    (case l_why_row => k_is)
    (case c_why_row => k_is)
    (case k_why_row => k_is)
    (case a_need_program => k_is)
    (case l_need_program => k_is)
    (case c_need_program => k_is)
    (case k_need_program => k_is)
    (case a_need_wide => k_is)
    (case l_need_wide => k_is)
    (case c_need_wide => k_is)
    (case k_need_wide => k_is)
    (case a_is_home => k_is)
    (case l_is_home => k_is)
    (case c_is_home => k_is)
    (case k_is_home => k_is)
    (case a_need_laying => k_is)
    (case l_need_laying => k_is)
    (case c_need_laying => k_is)
    (case k_need_laying => k_is)
    (case a_spots => k_is)
    (case l_spots => k_is)
    (case c_spots => k_is)
    (case k_spots => k_is)
    (case a_cell_of => k_is)
    (case l_cell_of => k_is)
    (case c_cell_of => k_is)
    (case k_cell_of => k_is)
    (case a_image => k_is)
    (case l_image => k_is)
    (case c_image => k_is)
    (case k_image => k_is)
    (case lc_image => k_is)
    (case a_tracks => k_is)
    (case l_tracks => k_is)
    (case c_tracks => k_is)
    (case k_tracks => k_is)
    (case a_l_dice => k_is)
    (case l_l_dice => k_is)
    (case c_l_dice => k_is)
    (case k_l_dice => k_is)
    (case a_l_next => k_is)
    (case l_l_next => k_is)
    (case c_l_next => k_is)
    (case k_l_next => k_is)
    (case a_l_like => k_is)
    (case l_l_like => k_is)
    (case c_l_like => k_is)
    (case k_l_like => k_is)
    (case a_l_straight => k_is)
    (case l_l_straight => k_is)
    (case c_l_straight => k_is)
    (case k_l_straight => k_is)
    (case a_l_fork => k_is)
    (case l_l_fork => k_is)
    (case c_l_fork => k_is)
    (case k_l_fork => k_is)
    (case a_l_body => k_is)
    (case l_l_body => k_is)
    (case c_l_body => k_is)
    (case k_l_body => k_is)
    (case a_l_mixed => k_is)
    (case l_l_mixed => k_is)
    (case c_l_mixed => k_is)
    (case k_l_mixed => k_is)
    (case a_l_stopping => k_is)
    (case l_l_stopping => k_is)
    (case c_l_stopping => k_is)
    (case k_l_stopping => k_is)
    (case a_l_any => k_is)
    (case l_l_any => k_is)
    (case c_l_any => k_is)
    (case k_l_any => k_is)
    (case a_l_laying => k_is)
    (case l_l_laying => k_is)
    (case c_l_laying => k_is)
    (case k_l_laying => k_is)
    (case a_law => k_is)
    (case l_law => k_is)
    (case c_law => k_is)
    (case k_law => k_is)
    (case b_isinstance => k_is)
    (case b_int => k_is)
    (case b_bool => k_is)
    (case b_tuple => k_is)
    (case b_str => k_is)
    (case b_len => k_is)
    (case b_zip => k_is)
    (case b_enumerate => k_is)
    (case b_list => k_is)
    (case b_range => k_is)
    (case b_sum => k_is)
    (case b_sorted => k_is)
    (case b_max => k_is)
    (case b_min => k_is)
    (case b_set => k_is)
    (case v_MOST_NUMBER => k_is)
    (case v_MOST_WORTHS => k_is)
    (case v_MOST_ROWS => k_is)
    (case v_LEAST_WIDE => k_is)
    (case v_MOST_WIDE => k_is)
    (case v_MOST_HOMES => k_is)
    (case k_SHAPES => k_is)
    (case l_SHAPES => k_is)
    (case v11_image => rfl)
    (case hd_image => kernel_rfl)
    (case lp_image => kernel_rfl)
    (case hT_image => exact PySem.W.km_tabs_of Y _ (by k_mem))
    (case low_SHAPES => rfl)
    (case tab_SHAPES => repeat' (first | exact Dl.KdEs.nil | refine Dl.KdEs.cons ?_))
    (case lit_SHAPES => exact ⟨⟨_, _, rfl, rfl⟩, ⟨_, _, rfl, rfl⟩, ⟨_, _, rfl, rfl⟩, ⟨_, _, rfl, rfl⟩, ⟨_, _, rfl, rfl⟩, ⟨_, _, rfl, rfl⟩, ⟨_, _, rfl, rfl⟩, trivial⟩)
namespace Dl
open PySem L2
local macro_rules | `(tactic| walk_at "nm") => `(tactic| (first | with_reducible assumption | exact rfl | fail))
local macro_rules | `(tactic| walk_at "vis") => `(tactic| (first | with_reducible exact Nm.vis (k := .local) (by assumption) rfl | with_reducible exact Nm.vis (k := .cell) (by assumption) rfl | with_reducible exact Nm.vis (k := .free) (by assumption) rfl | exact Nm.vis (k := .local) (by exact rfl) rfl | exact Nm.vis (k := .cell) (by exact rfl) rfl | exact Nm.vis (k := .free) (by exact rfl) rfl | fail))
local macro_rules | `(tactic| walk_at "sto") => `(tactic| (first | exact Nm.sto (by with_reducible assumption) | exact Nm.stoC (by with_reducible assumption) (by assumption) | exact Nm.sto (by exact rfl) | fail))
local macro_rules | `(tactic| walk_at "pin") => `(tactic| (first | with_reducible assumption | exact unp_of (by with_reducible assumption) (by rfl) | fail))
local macro_rules | `(tactic| walk_at "room") => `(tactic| (first | with_reducible assumption | exact Room.mono (by assumption) (by decide) | fail))
local macro_rules | `(tactic| walk_at "blk") => `(tactic| (exact ⟨rfl, by decide +kernel, by decide +kernel, by decide +kernel, by decide +kernel⟩))
local macro_rules | `(tactic| walk_at "pins") => `(tactic| (exact unp_all (by with_reducible assumption) (by rfl)))
local macro_rules | `(tactic| walk_at "swap") => `(tactic| (exact sw_of (by with_reducible assumption) (by rfl) (by with_reducible assumption) (by rfl) (by rfl)))
local macro_rules | `(tactic| walk_at "go1") => `(tactic| (first | (refine g_DE ?_; first | (refine g_name ?_; first | refine de_name (by with_reducible assumption) (by with_reducible assumption) (by (first | with_reducible exact Nm.vis (k := .local) (by assumption) rfl | with_reducible exact Nm.vis (k := .cell) (by assumption) rfl | with_reducible exact Nm.vis (k := .free) (by assumption) rfl | exact Nm.vis (k := .local) (by exact rfl) rfl | exact Nm.vis (k := .cell) (by exact rfl) rfl | exact Nm.vis (k := .free) (by exact rfl) rfl | fail)) (by rfl) (by (first | ((with_reducible repeat' (first | exact imm_int | exact imm_str | exact imm_bl | exact imm_non | exact imm_opq | exact imm_nil | assumption | refine imm_cons ?_ ?_ | refine imm_tup ?_ | exact imm_keyTk | refine imm_tk ?_ | refine imm_cut ?_ | exact imm_fzi | refine imm_app ?_ ?_ | exact imm_map fun _ => imm_int | exact imm_strsD | exact rngD_imm | exact imm_oD _ | exact imm_oDs _ | exact imm_lam)); done) | fail)) ?_ | refine de_slot (by with_reducible assumption) (by with_reducible assumption) (by (first | with_reducible exact Nm.vis (k := .local) (by assumption) rfl | with_reducible exact Nm.vis (k := .cell) (by assumption) rfl | with_reducible exact Nm.vis (k := .free) (by assumption) rfl | exact Nm.vis (k := .local) (by exact rfl) rfl | exact Nm.vis (k := .cell) (by exact rfl) rfl | exact Nm.vis (k := .free) (by exact rfl) rfl | fail)) (by rfl) ?_ | refine de_glob (by with_reducible assumption) (by with_reducible assumption) (by (first | with_reducible assumption | exact rfl | fail)) (by with_reducible assumption) ?_ | refine de_tyName (by with_reducible assumption) (by with_reducible assumption) (by (first | with_reducible assumption | exact rfl | fail)) (by with_reducible assumption) (by (with_reducible first | exact _root_.PyProof.Rows.boot_int | exact _root_.PyProof.Rows.boot_bool | exact _root_.PyProof.Rows.boot_str | exact _root_.PyProof.Rows.boot_tuple | exact _root_.PyProof.Rows.boot_list | exact _root_.PyProof.Rows.boot_dict | exact _root_.PyProof.Rows.boot_set | fail)) ?_) | (refine g_con ?_; first | refine de_int ?_ | refine de_str ?_ | refine de_bl ?_ | refine de_non ?_) | (refine g_attr ?_; refine de_fld (by with_reducible assumption) ?_) | (refine g_sub ?_; first | (refine g_slice ?_; refine de_slice ?_) | (refine g_ixN ?_; first | refine de_ixKD (by with_reducible assumption) (by with_reducible assumption) (by (first | with_reducible assumption | exact rfl | fail)) (by with_reducible assumption) ?_ | refine de_ixKDI (by with_reducible assumption) (by with_reducible assumption) (by (first | with_reducible assumption | exact rfl | fail)) (by with_reducible assumption) ?_) | (refine g_ix ?_; refine de_get (by with_reducible assumption) ?_)) | (refine g_bin ?_; first | refine de_add ?_ | refine de_sub ?_ | refine de_mulG ?_ | refine de_mod ?_ | refine de_fdiv ?_ | refine de_pow ?_) | (refine g_cmp ?_; first | refine de_lt ?_ | refine de_le ?_ | refine de_gt ?_ | refine de_ge ?_ | refine de_eqQ (by with_reducible assumption) ?_ | refine de_neQ (by with_reducible assumption) ?_ | refine de_is ?_ | refine de_isnot ?_ | refine de_lele ?_ | refine de_lelt ?_ | refine de_inQ (by with_reducible assumption) ?_ | refine de_notinQ (by with_reducible assumption) ?_) | (refine g_un ?_; first | refine de_neg ?_ | refine de_not ?_) | (refine g_bo ?_; first | refine de_and ?_ | refine de_or ?_ | refine de_bone ?_) | refine de_if ?_ | refine de_tup ?_ | refine de_list ?_ | (refine g_call ?_; first | (refine g_callN ?_; first | (refine g_len ?_; refine de_lenQ (by with_reducible assumption) (by with_reducible assumption) (by (first | with_reducible assumption | exact rfl | fail)) (by with_reducible assumption) ?_) | (refine g_isi ?_; refine de_isi (by with_reducible assumption) (by with_reducible assumption) (by (first | with_reducible assumption | exact rfl | fail)) (by with_reducible assumption) ?_) | (refine g_int ?_; refine de_intc (by with_reducible assumption) (by with_reducible assumption) (by (first | with_reducible assumption | exact rfl | fail)) (by with_reducible assumption) ?_) | (refine g_strc ?_; refine de_strc (by with_reducible assumption) (by with_reducible assumption) (by (first | with_reducible assumption | exact rfl | fail)) (by with_reducible assumption) ?_) | (refine g_list ?_; first | refine de_listRg (by with_reducible assumption) (by with_reducible assumption) (by (first | with_reducible assumption | exact rfl | fail)) (by with_reducible assumption) (by (first | with_reducible assumption | exact rfl | fail)) (by with_reducible assumption) ?_ | refine de_listRg2 (by with_reducible assumption) (by with_reducible assumption) (by (first | with_reducible assumption | exact rfl | fail)) (by with_reducible assumption) (by (first | with_reducible assumption | exact rfl | fail)) (by with_reducible assumption) ?_ | refine de_listc (by with_reducible assumption) (by with_reducible assumption) (by (first | with_reducible assumption | exact rfl | fail)) (by with_reducible assumption) ?_) | (refine g_tuple ?_; refine de_tuplec (by with_reducible assumption) (by with_reducible assumption) (by (first | with_reducible assumption | exact rfl | fail)) (by with_reducible assumption) ?_) | (refine g_sum ?_; refine de_sum (by with_reducible assumption) (by with_reducible assumption) (by (first | with_reducible assumption | exact rfl | fail)) (by with_reducible assumption) ?_) | (refine g_max2 ?_; refine de_max2 (by with_reducible assumption) (by with_reducible assumption) (by (first | with_reducible assumption | exact rfl | fail)) (by with_reducible assumption) ?_) | (refine g_min2 ?_; refine de_min2 (by with_reducible assumption) (by with_reducible assumption) (by (first | with_reducible assumption | exact rfl | fail)) (by with_reducible assumption) ?_) | (refine g_max1 ?_; refine de_maxL (by with_reducible assumption) (by with_reducible assumption) (by (first | with_reducible assumption | exact rfl | fail)) (by with_reducible assumption) ?_) | (refine g_min1 ?_; refine de_minL (by with_reducible assumption) (by with_reducible assumption) (by (first | with_reducible assumption | exact rfl | fail)) (by with_reducible assumption) ?_) | (refine g_sortSet ?_; refine de_sortSet (by with_reducible assumption) (by with_reducible assumption) (by (first | with_reducible assumption | exact rfl | fail)) (by with_reducible assumption) (by (first | with_reducible assumption | exact rfl | fail)) (by with_reducible assumption) ?_) | (refine g_dict1 ?_; refine de_dictT (by with_reducible assumption) (by with_reducible assumption) (by with_reducible assumption) (by (first | with_reducible assumption | exact rfl | fail)) (by with_reducible assumption) ?_) | (refine g_sorted ?_; refine de_sorted (by with_reducible assumption) (by with_reducible assumption) (by with_reducible assumption) (by (first | with_reducible assumption | exact rfl | fail)) (by with_reducible assumption) ?_) | (refine de_call (by with_reducible assumption) (by with_reducible assumption) (by with_reducible assumption) ?hroom (by (first | with_reducible assumption | exact rfl | fail)) ?_; (case hroom => (first | with_reducible assumption | exact Room.mono (by assumption) (by decide) | fail))) | (refine de_make (by with_reducible assumption) (by with_reducible assumption) (by with_reducible assumption) ?hroom (by (first | with_reducible assumption | exact rfl | fail)) ?_; (case hroom => (first | with_reducible assumption | exact Room.mono (by assumption) (by decide) | fail))) | (refine de_callX (by with_reducible assumption) (by with_reducible assumption) (by with_reducible assumption) (by with_reducible assumption) ?hroom (by (first | with_reducible assumption | exact rfl | fail)) ?_; (case hroom => (first | with_reducible assumption | exact Room.mono (by assumption) (by decide) | fail))) | (refine de_callT (by with_reducible assumption) (by with_reducible assumption) (by with_reducible assumption) ?hroom (by (first | with_reducible assumption | exact rfl | fail)) (by with_reducible assumption) (by with_reducible assumption) ?_; (case hroom => (first | with_reducible assumption | exact Room.mono (by assumption) (by decide) | fail))) | (refine de_makeX (by with_reducible assumption) (by with_reducible assumption) (by with_reducible assumption) (by with_reducible assumption) ?hroom (by (first | with_reducible assumption | exact rfl | fail)) ?_; (case hroom => (first | with_reducible assumption | exact Room.mono (by assumption) (by decide) | fail)))) | (refine g_callA ?_; first | (refine g_append ?_; refine de_appendQ ?_) | (refine g_extend ?_; refine de_extend ?_) | (refine g_join ?_; refine de_join ?_) | (refine g_split ?_; refine de_split ?_) | (refine g_pop0 ?_; refine de_pop0 ?_) | (refine g_pop ?_; refine de_popAt ?_) | (refine g_index ?_; refine de_index ?_) | (refine g_count ?_; refine de_countQ (by with_reducible assumption) ?_) | (refine g_get2 ?_; refine de_get2 (by with_reducible assumption) ?_) | (refine de_meth (by with_reducible assumption) (by with_reducible assumption) (by with_reducible assumption) ?hroom ?_; (case hroom => (first | with_reducible assumption | exact Room.mono (by assumption) (by decide) | fail))) | (refine de_meth0 (by with_reducible assumption) (by with_reducible assumption) (by with_reducible assumption) ?hroom ?_; (case hroom => (first | with_reducible assumption | exact Room.mono (by assumption) (by decide) | fail))))) | (refine g_dict ?_; refine de_disp ?_) | (refine g_lam ?_; refine de_lamM (by with_reducible assumption) (by with_reducible assumption) (by with_reducible assumption) ?_; intro _ _) | fail) | (refine g_acons ?_; refine da_cons ?_) | ((with_reducible refine g_Ex ?_); first | with_reducible refine ex_tv ?_ | with_reducible refine ex_int ?_ | with_reducible refine ex_int2 ?_ | with_reducible refine ex_bl ?_ | with_reducible refine ex_str ?_ | with_reducible refine ex_1v ?_ | ((with_reducible refine' ex_call ?exa ?exb ?exc ?_); (case exa => (first | rfl | (repeat (first | exact rsvs_nil | refine' rsvs_v ?_ | refine' rsvs_s (by rfl) ?_ | refine' rsvs_p (by rfl) ?_)))); (case exb => rfl); (case exc => first | exact List.nodup_nil | exact List.nodup_singleton _ | (simp [slots]; done) | fail)) | ((with_reducible refine' ex_takes ?exa ?_); (case exa => (repeat (first | exact Takes.nil | apply Takes.cons Take.v | apply Takes.cons (Take.s (by rfl)) | apply Takes.cons (Take.p (by rfl)))))) | ((with_reducible refine' ex_ts ?exa ?_); (case exa => rfl)) | ((with_reducible refine' ex_1s ?exa ?_); (case exa => rfl)) | with_reducible refine ex_one ?_ | ((with_reducible refine' ex_look ?exa ?_); (case exa => first | rfl | assumption | fail)) | ((with_reducible refine' ex_meth ?exa ?exb ?_); (case exa => first | rfl | exact rsv_p (by rfl) | fail); (case exb => rfl)) | with_reducible refine ex_d ?_) | (refine g_Ex ?_; first | refine ⟨_, _, _, _, _, _, rfl, Take.v, Take.v, ?_⟩ | refine ⟨_, _, rfl, (by first | with_reducible assumption | (with_reducible show _ = _; rfl) | fail), ?_⟩ | refine ⟨_, (by rfl), ?_⟩ | refine ⟨_, _, rfl, ?_⟩) | ((with_reducible refine g_And ?_); first | ((with_reducible refine And.intro (a := Imm _) ?andi ?_); (case andi => (first | ((with_reducible repeat' (first | exact imm_int | exact imm_str | exact imm_bl | exact imm_non | exact imm_opq | exact imm_nil | assumption | refine imm_cons ?_ ?_ | refine imm_tup ?_ | exact imm_keyTk | refine imm_tk ?_ | refine imm_cut ?_ | exact imm_fzi | refine imm_app ?_ ?_ | exact imm_map fun _ => imm_int | exact imm_strsD | exact rngD_imm | exact imm_oD _ | exact imm_oDs _ | exact imm_lam)); done) | fail))) | refine And.intro (show IsDct _ _ from .inl ⟨_, (by first | rfl | exact rsv_p (by rfl) | fail)⟩) ?_ | refine And.intro (RgOk.of_le (by omega) (by omega) (by omega) (by omega)) ?_ | refine And.intro (show scal _ _ = true by rfl) ?_ | refine And.intro (show IsLst _ _ from ⟨_, (by first | rfl | exact rsv_p (by rfl) | fail)⟩) ?_ | refine And.intro (show _ ≤ sizeLine by (first | with_reducible assumption | decide | (rw [sizeLine_eq]; simp; done) | (rw [sizeLine_eq]; simp; omega) | fail)) ?_ | refine br_rev ?_ | refine br_sw ?_ | refine br_true ?_ | refine br_false ?_ | refine br_T (by first | rfl | assumption | fail) ?_ | refine br_F (by first | rfl | assumption | fail) ?_ | refine br_int (fun _ => ?_) (fun _ => ?_) | refine br_dec (fun _ => ?_) (fun _ => ?_) | refine br_nint (fun _ => ?_) (fun _ => ?_) | refine br_ndec (fun _ => ?_) (fun _ => ?_) | refine And.intro (show List.Nodup _ ∧ _ from ⟨by decide +kernel, by decide +kernel⟩) ?_ | ((with_reducible refine And.intro (a := (0 : Int) < _) ?andz ?_); (case andz => decide)) | refine And.intro (Or.inr ⟨by decide, by decide⟩) ?_ | refine And.intro ⟨by decide, by decide, by decide⟩ ?_ | (refine And.intro ?andl ?_; (case andl => first | with_reducible assumption | omega))) | (refine g_GetS ?_; first | refine GetS.seqpi (by rfl) (by rfl) (by first | rfl | exact atI_zero | fail) (by (first | ((with_reducible repeat' (first | exact imm_int | exact imm_str | exact imm_bl | exact imm_non | exact imm_opq | exact imm_nil | assumption | refine imm_cons ?_ ?_ | refine imm_tup ?_ | exact imm_keyTk | refine imm_tk ?_ | refine imm_cut ?_ | exact imm_fzi | refine imm_app ?_ ?_ | exact imm_map fun _ => imm_int | exact imm_strsD | exact rngD_imm | exact imm_oD _ | exact imm_oDs _ | exact imm_lam)); done) | fail)) ?_ | refine GetS.seq (by first | rfl | exact rsv_p (by rfl) | fail) (by rfl) (by first | rfl | exact atI_zero | fail) (by (first | ((with_reducible repeat' (first | exact imm_int | exact imm_str | exact imm_bl | exact imm_non | exact imm_opq | exact imm_nil | assumption | refine imm_cons ?_ ?_ | refine imm_tup ?_ | exact imm_keyTk | refine imm_tk ?_ | refine imm_cut ?_ | exact imm_fzi | refine imm_app ?_ ?_ | exact imm_map fun _ => imm_int | exact imm_strsD | exact rngD_imm | exact imm_oD _ | exact imm_oDs _ | exact imm_lam)); done) | fail)) ?_ | refine GetS.dKstr (by first | rfl | exact rsv_p (by rfl) | fail) (by rfl) (by (first | ((with_reducible repeat' (first | exact imm_int | exact imm_str | exact imm_bl | exact imm_non | exact imm_opq | exact imm_nil | assumption | refine imm_cons ?_ ?_ | refine imm_tup ?_ | exact imm_keyTk | refine imm_tk ?_ | refine imm_cut ?_ | exact imm_fzi | refine imm_app ?_ ?_ | exact imm_map fun _ => imm_int | exact imm_strsD | exact rngD_imm | exact imm_oD _ | exact imm_oDs _ | exact imm_lam)); done) | fail)) ?_ | refine GetS.dKtS (by rfl) (by rfl) ?_ | (refine GetS.dKs (by rfl) (by rfl) ?_; intro _)) | refine da_nil ?_ | (refine g_DS ?_; first | (refine g_as ?_; first | (refine g_set ?_; refine ds_set (by with_reducible assumption) (by (first | with_reducible assumption | exact rfl | fail)) (by (first | exact Nm.sto (by with_reducible assumption) | exact Nm.stoC (by with_reducible assumption) (by assumption) | exact Nm.sto (by exact rfl) | fail)) (by (first | with_reducible assumption | exact unp_of (by with_reducible assumption) (by rfl) | fail)) ?_) | (refine g_setixT ?_; refine ds_putT (by with_reducible assumption) ?_) | (refine g_setix ?_; refine ds_sto (by with_reducible assumption) ?_) | (refine g_setfld ?_; refine ds_fld (by with_reducible assumption) ?_) | (refine g_asg ?_; refine ds_asgW ?_)) | refine ds_if ?_ | refine ds_ret ?_ | refine ds_retN ?_ | (refine g_expr ?_; refine ds_expr ?_) | refine ds_break ?_ | refine ds_continue ?_ | refine ds_pass ?_ | refine ds_raiseE (by with_reducible assumption) (by with_reducible assumption) (by with_reducible assumption) (by with_reducible assumption) (by (first | with_reducible assumption | exact rfl | fail)) ?_ | fail) | ((refine' db_consN ?hnf ?_); (case hnf => ((try simp only [List.set_cons_zero, List.set_cons_succ, backs, setR, clr, List.set_nil, List.map_cons, List.map_nil]); exact rfl))) | refine I2.mk ?_ | (refine g_AddS ?_; first | refine AddS.int ?_ | refine AddS.lst (by rfl) (by rfl) (by (first | ((with_reducible repeat' (first | exact imm_int | exact imm_str | exact imm_bl | exact imm_non | exact imm_opq | exact imm_nil | assumption | refine imm_cons ?_ ?_ | refine imm_tup ?_ | exact imm_keyTk | refine imm_tk ?_ | refine imm_cut ?_ | exact imm_fzi | refine imm_app ?_ ?_ | exact imm_map fun _ => imm_int | exact imm_strsD | exact rngD_imm | exact imm_oD _ | exact imm_oDs _ | exact imm_lam)); done) | fail)) (by (first | with_reducible assumption | decide | (rw [sizeLine_eq]; simp; done) | (rw [sizeLine_eq]; simp; omega) | fail)) ?_ | refine AddS.tup (by rfl) (by rfl) (by (first | ((with_reducible repeat' (first | exact imm_int | exact imm_str | exact imm_bl | exact imm_non | exact imm_opq | exact imm_nil | assumption | refine imm_cons ?_ ?_ | refine imm_tup ?_ | exact imm_keyTk | refine imm_tk ?_ | refine imm_cut ?_ | exact imm_fzi | refine imm_app ?_ ?_ | exact imm_map fun _ => imm_int | exact imm_strsD | exact rngD_imm | exact imm_oD _ | exact imm_oDs _ | exact imm_lam)); done) | fail)) (by (first | with_reducible assumption | decide | (rw [sizeLine_eq]; simp; done) | (rw [sizeLine_eq]; simp; omega) | fail)) ?_) | (refine g_DT ?_; first | (refine g_tcmp ?_; first | refine dt_lt ?_ | refine dt_le ?_ | refine dt_gt ?_ | refine dt_ge ?_ | refine dt_is ?_ | refine dt_isnot ?_ | refine dt_lele ?_ | refine dt_lelt ?_ | (refine g_cmpN ?_; first | refine dt_inKD (by with_reducible assumption) (by with_reducible assumption) (by (first | with_reducible assumption | exact rfl | fail)) (by with_reducible assumption) ?_ | refine dt_notinKD (by with_reducible assumption) (by with_reducible assumption) (by (first | with_reducible assumption | exact rfl | fail)) (by with_reducible assumption) ?_) | ((first | refine g_neLst ?_ | refine g_neTup ?_); refine dt_neD (by with_reducible assumption) ?_) | ((first | refine g_eqLst ?_ | refine g_eqTup ?_); refine dt_eqD (by with_reducible assumption) ?_) | refine dt_eqQ (by with_reducible assumption) ?_ | refine dt_neQ (by with_reducible assumption) ?_ | refine dt_inQ (by with_reducible assumption) ?_ | refine dt_notinQ (by with_reducible assumption) ?_) | refine dt_not ?_ | refine dt_pw (dw_and ?_) | refine dt_pw (dw_or ?_) | refine dt_val ?_ | fail) | (refine g_DTs ?_; first | refine dts_nil ?_ | refine dts_one ?_) | refine db_nil ?_ | (refine g_SeqS ?_; first | refine SeqS.seq (by rfl) (by rfl) (by (first | ((with_reducible repeat' (first | exact imm_int | exact imm_str | exact imm_bl | exact imm_non | exact imm_opq | exact imm_nil | assumption | refine imm_cons ?_ ?_ | refine imm_tup ?_ | exact imm_keyTk | refine imm_tk ?_ | refine imm_cut ?_ | exact imm_fzi | refine imm_app ?_ ?_ | exact imm_map fun _ => imm_int | exact imm_strsD | exact rngD_imm | exact imm_oD _ | exact imm_oDs _ | exact imm_lam)); done) | fail)) ?_ | refine SeqS.str ?_) | (refine g_LenQ ?_; first | refine LenQ.s (LenS.seq (by first | rfl | exact rsv_p (by rfl) | fail) (by rfl) ?_) | refine LenQ.s (LenS.str (by first | decide | assumption | fail) ?_) | refine LenQ.dT (by first | rfl | exact rsv_p (by rfl) | fail) ?_) | refine InQ.s (InS.flat (by first | rfl | exact rsv_p (by rfl) | fail) (by rfl) (by first | rfl | exact rsv_p (by rfl) | fail) (by rfl) (by rfl) (by rfl) (by rfl) ?_) | refine EqQ.l (L2s.mk (by rfl) (by rfl) ?_) | refine MulS.int (by first | exact Or.inr ⟨by decide, by decide⟩ | (first | with_reducible assumption | (left; constructor <;> omega) | (right; constructor <;> omega) | fail) | fail) ?_ | refine dw_and1 ?_ | refine dw_or1 ?_ | (refine g_DW ?_; first | refine dw_and ?_ | refine dw_or ?_) | (refine g_DO ?_; first | refine do_none ?_ | refine do_some ?_) | (refine g_DG ?_; first | refine dg_name (by with_reducible assumption) (by with_reducible assumption) (by (first | exact Nm.sto (by with_reducible assumption) | exact Nm.stoC (by with_reducible assumption) (by assumption) | exact Nm.sto (by exact rfl) | fail)) (by (first | with_reducible assumption | exact unp_of (by with_reducible assumption) (by rfl) | fail)) ?_ | refine dg_tup (by with_reducible assumption) ?_) | (refine g_DGw ?_; first | refine dgw_name (by with_reducible assumption) (by with_reducible assumption) (by (first | exact Nm.sto (by with_reducible assumption) | exact Nm.stoC (by with_reducible assumption) (by assumption) | exact Nm.sto (by exact rfl) | fail)) (by (first | with_reducible assumption | exact unp_of (by with_reducible assumption) (by rfl) | fail)) ?_ | refine dgw_tup (by with_reducible assumption) ?_ | refine dgw_attr (by with_reducible assumption) ?_) | (refine g_DGsw ?_; first | refine dgsw_cons ?_ | refine dgsw_nil ?_) | (refine g_DGs ?_; first | refine dgs_name ?_ | refine dgs_cons ?_ | refine dgs_nil ?_) | (refine g_InB ?_; intro X' b' B'; have J' := Blk.jn b' (by assumption); have r' := Blk.room b' (by assumption)) | (refine g_DPs ?_; first | refine dps_cons ?_ | refine dps_nil ?_) | (refine g_StoS ?_; first | refine StoS.lst (by first | rfl | exact rsv_p (by rfl) | fail) (by rfl) ?_ | refine StoS.dKstr (by first | rfl | exact rsv_p (by rfl) | fail) (by (first | ((with_reducible repeat' (first | exact imm_int | exact imm_str | exact imm_bl | exact imm_non | exact imm_opq | exact imm_nil | assumption | refine imm_cons ?_ ?_ | refine imm_tup ?_ | exact imm_keyTk | refine imm_tk ?_ | refine imm_cut ?_ | exact imm_fzi | refine imm_app ?_ ?_ | exact imm_map fun _ => imm_int | exact imm_strsD | exact rngD_imm | exact imm_oD _ | exact imm_oDs _ | exact imm_lam)); done) | fail)) (Nat.le_trans (Nat.le_of_ble_eq_true (m := 1000) (by rfl)) (by rw [sizeLine_eq]; decide)) ?_) | (refine g_FldS ?_; first | refine FldS.immP (by rfl) (by rfl) (by with_reducible assumption) (by with_reducible repeat (first | exact List.mem_cons_self | apply List.mem_cons_of_mem)) (by (first | ((with_reducible repeat' (first | exact imm_int | exact imm_str | exact imm_bl | exact imm_non | exact imm_opq | exact imm_nil | assumption | refine imm_cons ?_ ?_ | refine imm_tup ?_ | exact imm_keyTk | refine imm_tk ?_ | refine imm_cut ?_ | exact imm_fzi | refine imm_app ?_ ?_ | exact imm_map fun _ => imm_int | exact imm_strsD | exact rngD_imm | exact imm_oD _ | exact imm_oDs _ | exact imm_lam)); done) | fail)) ?_ | refine FldS.imm (by first | rfl | exact rsv_p (by rfl) | fail) (by rfl) (by with_reducible assumption) (by with_reducible repeat (first | exact List.mem_cons_self | apply List.mem_cons_of_mem)) (by (first | ((with_reducible repeat' (first | exact imm_int | exact imm_str | exact imm_bl | exact imm_non | exact imm_opq | exact imm_nil | assumption | refine imm_cons ?_ ?_ | refine imm_tup ?_ | exact imm_keyTk | refine imm_tk ?_ | refine imm_cut ?_ | exact imm_fzi | refine imm_app ?_ ?_ | exact imm_map fun _ => imm_int | exact imm_strsD | exact rngD_imm | exact imm_oD _ | exact imm_oDs _ | exact imm_lam)); done) | fail)) ?_ | refine FldS.tagS (by rfl) (by rfl) (by with_reducible assumption) (by with_reducible repeat (first | exact List.mem_cons_self | apply List.mem_cons_of_mem)) ?_ | refine FldS.tagP (by rfl) (by rfl) (by with_reducible assumption) (by with_reducible repeat (first | exact List.mem_cons_self | apply List.mem_cons_of_mem)) ?_ | (refine FldS.s (by rfl) (by rfl) (by with_reducible assumption) (by with_reducible repeat (first | exact List.mem_cons_self | apply List.mem_cons_of_mem)) ?_; intro _) | (refine FldS.p (by rfl) (by rfl) (by with_reducible assumption) (by with_reducible repeat (first | exact List.mem_cons_self | apply List.mem_cons_of_mem)) ?_; intro _)) | (refine g_PutS ?_; first | refine PutS.old (by rfl) (by rfl) (by with_reducible assumption) (by with_reducible repeat (first | exact List.mem_cons_self | apply List.mem_cons_of_mem)) (Nat.le_of_ble_eq_true (by rfl)) ?_ | refine PutS.new (by rfl) (by rfl) (by with_reducible assumption) (by with_reducible repeat (first | exact List.mem_cons_self | apply List.mem_cons_of_mem)) (Nat.le_of_ble_eq_true (by rfl)) ?_) | refine AppQ.mk (by first | rfl | exact rsv_p (by rfl) | fail) (by (first | with_reducible assumption | decide | (rw [sizeLine_eq]; simp; done) | (rw [sizeLine_eq]; simp; omega) | fail)) ?_ | refine StS.mk (by first | rfl | exact rsv_p (by rfl) | fail) (by rfl) (by first | with_reducible assumption | (simp; omega) | (simp; done) | fail) ?_ | refine IntsS.mk (by first | rfl | exact rsv_p (by rfl) | fail) ?_ | refine TwoI.mk ?_ | refine IsiS.mk (by rfl) (by rfl) (by (with_reducible first | exact kb_NoneType_bool | exact kb_NoneType_str | exact kb_NoneType_int | exact kb_NoneType_tuple | exact kb_NoneType_list | exact kb_NoneType_dict | exact kb_bool_bool | exact kb_bool_str | exact kb_bool_int | exact kb_bool_tuple | exact kb_bool_list | exact kb_bool_dict | exact kb_int_bool | exact kb_int_str | exact kb_int_int | exact kb_int_tuple | exact kb_int_list | exact kb_int_dict | exact kb_str_bool | exact kb_str_str | exact kb_str_int | exact kb_str_tuple | exact kb_str_list | exact kb_str_dict | exact kb_tuple_bool | exact kb_tuple_str | exact kb_tuple_int | exact kb_tuple_tuple | exact kb_tuple_list | exact kb_tuple_dict | exact kb_list_bool | exact kb_list_str | exact kb_list_int | exact kb_list_tuple | exact kb_list_list | exact kb_list_dict | fail)) ?_ | (refine g_SlS ?_; first | refine SlS.lst (by rfl) (by (first | ((with_reducible repeat' (first | exact imm_int | exact imm_str | exact imm_bl | exact imm_non | exact imm_opq | exact imm_nil | assumption | refine imm_cons ?_ ?_ | refine imm_tup ?_ | exact imm_keyTk | refine imm_tk ?_ | refine imm_cut ?_ | exact imm_fzi | refine imm_app ?_ ?_ | exact imm_map fun _ => imm_int | exact imm_strsD | exact rngD_imm | exact imm_oD _ | exact imm_oDs _ | exact imm_lam)); done) | fail)) ?_ | refine SlS.str (by (first | with_reducible assumption | decide | (rw [sizeLine_eq]; simp; done) | (rw [sizeLine_eq]; simp; omega) | fail)) ?_ | refine SlS.tup (by rfl) (by (first | ((with_reducible repeat' (first | exact imm_int | exact imm_str | exact imm_bl | exact imm_non | exact imm_opq | exact imm_nil | assumption | refine imm_cons ?_ ?_ | refine imm_tup ?_ | exact imm_keyTk | refine imm_tk ?_ | refine imm_cut ?_ | exact imm_fzi | refine imm_app ?_ ?_ | exact imm_map fun _ => imm_int | exact imm_strsD | exact rngD_imm | exact imm_oD _ | exact imm_oDs _ | exact imm_lam)); done) | fail)) ?_) | (refine g_IsN ?_; first | refine IsN.yes ?_ | refine IsN.no (by first | rfl | exact rsv_p (by rfl) | fail) (by intro v h; cases h <;> (intro q; cases q)) (by intro v e q; cases q) ?_) | (refine g_EqS ?_; first | refine eqs_nilT (n := 6) (by rfl) (by first | assumption | ((repeat' (first | exact shp_int | exact shp_bl | exact shp_non | assumption | refine shp_lst ?_ | refine shp_tup ?_ | exact shp_all_nil | refine shp_all_cons ?_ ?_ | exact shp_all_map fun _ => shp_int)); done) | fail) (by decide) ?_ | refine eqs_nil (n := 6) (by rfl) (by first | assumption | ((repeat' (first | exact shp_int | exact shp_bl | exact shp_non | assumption | refine shp_lst ?_ | refine shp_tup ?_ | exact shp_all_nil | refine shp_all_cons ?_ ?_ | exact shp_all_map fun _ => shp_int)); done) | fail) (by decide) ?_) | refine SeqC.mk (by rfl) (by rfl) (by (first | ((with_reducible repeat' (first | exact imm_int | exact imm_str | exact imm_bl | exact imm_non | exact imm_opq | exact imm_nil | assumption | refine imm_cons ?_ ?_ | refine imm_tup ?_ | exact imm_keyTk | refine imm_tk ?_ | refine imm_cut ?_ | exact imm_fzi | refine imm_app ?_ ?_ | exact imm_map fun _ => imm_int | exact imm_strsD | exact rngD_imm | exact imm_oD _ | exact imm_oDs _ | exact imm_lam)); done) | fail)) ?_ | refine IntS.int ?_ | refine IntS.bl ?_ | refine StrS.str ?_ | refine AppS.s (by rfl) (by (first | with_reducible assumption | decide | (rw [sizeLine_eq]; simp; done) | (rw [sizeLine_eq]; simp; omega) | fail)) ?_ | refine keyD_str ?_ | refine keyD_int ?_ | fail))
local macro_rules | `(tactic| walk_at "go") => `(tactic| (repeat' (first | (refine g_DE ?_; first | (refine g_name ?_; first | refine de_name (by with_reducible assumption) (by with_reducible assumption) (by (first | with_reducible exact Nm.vis (k := .local) (by assumption) rfl | with_reducible exact Nm.vis (k := .cell) (by assumption) rfl | with_reducible exact Nm.vis (k := .free) (by assumption) rfl | exact Nm.vis (k := .local) (by exact rfl) rfl | exact Nm.vis (k := .cell) (by exact rfl) rfl | exact Nm.vis (k := .free) (by exact rfl) rfl | fail)) (by rfl) (by (first | ((with_reducible repeat' (first | exact imm_int | exact imm_str | exact imm_bl | exact imm_non | exact imm_opq | exact imm_nil | assumption | refine imm_cons ?_ ?_ | refine imm_tup ?_ | exact imm_keyTk | refine imm_tk ?_ | refine imm_cut ?_ | exact imm_fzi | refine imm_app ?_ ?_ | exact imm_map fun _ => imm_int | exact imm_strsD | exact rngD_imm | exact imm_oD _ | exact imm_oDs _ | exact imm_lam)); done) | fail)) ?_ | refine de_slot (by with_reducible assumption) (by with_reducible assumption) (by (first | with_reducible exact Nm.vis (k := .local) (by assumption) rfl | with_reducible exact Nm.vis (k := .cell) (by assumption) rfl | with_reducible exact Nm.vis (k := .free) (by assumption) rfl | exact Nm.vis (k := .local) (by exact rfl) rfl | exact Nm.vis (k := .cell) (by exact rfl) rfl | exact Nm.vis (k := .free) (by exact rfl) rfl | fail)) (by rfl) ?_ | refine de_glob (by with_reducible assumption) (by with_reducible assumption) (by (first | with_reducible assumption | exact rfl | fail)) (by with_reducible assumption) ?_ | refine de_tyName (by with_reducible assumption) (by with_reducible assumption) (by (first | with_reducible assumption | exact rfl | fail)) (by with_reducible assumption) (by (with_reducible first | exact _root_.PyProof.Rows.boot_int | exact _root_.PyProof.Rows.boot_bool | exact _root_.PyProof.Rows.boot_str | exact _root_.PyProof.Rows.boot_tuple | exact _root_.PyProof.Rows.boot_list | exact _root_.PyProof.Rows.boot_dict | exact _root_.PyProof.Rows.boot_set | fail)) ?_) | (refine g_con ?_; first | refine de_int ?_ | refine de_str ?_ | refine de_bl ?_ | refine de_non ?_) | (refine g_attr ?_; refine de_fld (by with_reducible assumption) ?_) | (refine g_sub ?_; first | (refine g_slice ?_; refine de_slice ?_) | (refine g_ixN ?_; first | refine de_ixKD (by with_reducible assumption) (by with_reducible assumption) (by (first | with_reducible assumption | exact rfl | fail)) (by with_reducible assumption) ?_ | refine de_ixKDI (by with_reducible assumption) (by with_reducible assumption) (by (first | with_reducible assumption | exact rfl | fail)) (by with_reducible assumption) ?_) | (refine g_ix ?_; refine de_get (by with_reducible assumption) ?_)) | (refine g_bin ?_; first | refine de_add ?_ | refine de_sub ?_ | refine de_mulG ?_ | refine de_mod ?_ | refine de_fdiv ?_ | refine de_pow ?_) | (refine g_cmp ?_; first | refine de_lt ?_ | refine de_le ?_ | refine de_gt ?_ | refine de_ge ?_ | refine de_eqQ (by with_reducible assumption) ?_ | refine de_neQ (by with_reducible assumption) ?_ | refine de_is ?_ | refine de_isnot ?_ | refine de_lele ?_ | refine de_lelt ?_ | refine de_inQ (by with_reducible assumption) ?_ | refine de_notinQ (by with_reducible assumption) ?_) | (refine g_un ?_; first | refine de_neg ?_ | refine de_not ?_) | (refine g_bo ?_; first | refine de_and ?_ | refine de_or ?_ | refine de_bone ?_) | refine de_if ?_ | refine de_tup ?_ | refine de_list ?_ | (refine g_call ?_; first | (refine g_callN ?_; first | (refine g_len ?_; refine de_lenQ (by with_reducible assumption) (by with_reducible assumption) (by (first | with_reducible assumption | exact rfl | fail)) (by with_reducible assumption) ?_) | (refine g_isi ?_; refine de_isi (by with_reducible assumption) (by with_reducible assumption) (by (first | with_reducible assumption | exact rfl | fail)) (by with_reducible assumption) ?_) | (refine g_int ?_; refine de_intc (by with_reducible assumption) (by with_reducible assumption) (by (first | with_reducible assumption | exact rfl | fail)) (by with_reducible assumption) ?_) | (refine g_strc ?_; refine de_strc (by with_reducible assumption) (by with_reducible assumption) (by (first | with_reducible assumption | exact rfl | fail)) (by with_reducible assumption) ?_) | (refine g_list ?_; first | refine de_listRg (by with_reducible assumption) (by with_reducible assumption) (by (first | with_reducible assumption | exact rfl | fail)) (by with_reducible assumption) (by (first | with_reducible assumption | exact rfl | fail)) (by with_reducible assumption) ?_ | refine de_listRg2 (by with_reducible assumption) (by with_reducible assumption) (by (first | with_reducible assumption | exact rfl | fail)) (by with_reducible assumption) (by (first | with_reducible assumption | exact rfl | fail)) (by with_reducible assumption) ?_ | refine de_listc (by with_reducible assumption) (by with_reducible assumption) (by (first | with_reducible assumption | exact rfl | fail)) (by with_reducible assumption) ?_) | (refine g_tuple ?_; refine de_tuplec (by with_reducible assumption) (by with_reducible assumption) (by (first | with_reducible assumption | exact rfl | fail)) (by with_reducible assumption) ?_) | (refine g_sum ?_; refine de_sum (by with_reducible assumption) (by with_reducible assumption) (by (first | with_reducible assumption | exact rfl | fail)) (by with_reducible assumption) ?_) | (refine g_max2 ?_; refine de_max2 (by with_reducible assumption) (by with_reducible assumption) (by (first | with_reducible assumption | exact rfl | fail)) (by with_reducible assumption) ?_) | (refine g_min2 ?_; refine de_min2 (by with_reducible assumption) (by with_reducible assumption) (by (first | with_reducible assumption | exact rfl | fail)) (by with_reducible assumption) ?_) | (refine g_max1 ?_; refine de_maxL (by with_reducible assumption) (by with_reducible assumption) (by (first | with_reducible assumption | exact rfl | fail)) (by with_reducible assumption) ?_) | (refine g_min1 ?_; refine de_minL (by with_reducible assumption) (by with_reducible assumption) (by (first | with_reducible assumption | exact rfl | fail)) (by with_reducible assumption) ?_) | (refine g_sortSet ?_; refine de_sortSet (by with_reducible assumption) (by with_reducible assumption) (by (first | with_reducible assumption | exact rfl | fail)) (by with_reducible assumption) (by (first | with_reducible assumption | exact rfl | fail)) (by with_reducible assumption) ?_) | (refine g_dict1 ?_; refine de_dictT (by with_reducible assumption) (by with_reducible assumption) (by with_reducible assumption) (by (first | with_reducible assumption | exact rfl | fail)) (by with_reducible assumption) ?_) | (refine g_sorted ?_; refine de_sorted (by with_reducible assumption) (by with_reducible assumption) (by with_reducible assumption) (by (first | with_reducible assumption | exact rfl | fail)) (by with_reducible assumption) ?_) | (refine de_call (by with_reducible assumption) (by with_reducible assumption) (by with_reducible assumption) ?hroom (by (first | with_reducible assumption | exact rfl | fail)) ?_; (case hroom => (first | with_reducible assumption | exact Room.mono (by assumption) (by decide) | fail))) | (refine de_make (by with_reducible assumption) (by with_reducible assumption) (by with_reducible assumption) ?hroom (by (first | with_reducible assumption | exact rfl | fail)) ?_; (case hroom => (first | with_reducible assumption | exact Room.mono (by assumption) (by decide) | fail))) | (refine de_callX (by with_reducible assumption) (by with_reducible assumption) (by with_reducible assumption) (by with_reducible assumption) ?hroom (by (first | with_reducible assumption | exact rfl | fail)) ?_; (case hroom => (first | with_reducible assumption | exact Room.mono (by assumption) (by decide) | fail))) | (refine de_callT (by with_reducible assumption) (by with_reducible assumption) (by with_reducible assumption) ?hroom (by (first | with_reducible assumption | exact rfl | fail)) (by with_reducible assumption) (by with_reducible assumption) ?_; (case hroom => (first | with_reducible assumption | exact Room.mono (by assumption) (by decide) | fail))) | (refine de_makeX (by with_reducible assumption) (by with_reducible assumption) (by with_reducible assumption) (by with_reducible assumption) ?hroom (by (first | with_reducible assumption | exact rfl | fail)) ?_; (case hroom => (first | with_reducible assumption | exact Room.mono (by assumption) (by decide) | fail)))) | (refine g_callA ?_; first | (refine g_append ?_; refine de_appendQ ?_) | (refine g_extend ?_; refine de_extend ?_) | (refine g_join ?_; refine de_join ?_) | (refine g_split ?_; refine de_split ?_) | (refine g_pop0 ?_; refine de_pop0 ?_) | (refine g_pop ?_; refine de_popAt ?_) | (refine g_index ?_; refine de_index ?_) | (refine g_count ?_; refine de_countQ (by with_reducible assumption) ?_) | (refine g_get2 ?_; refine de_get2 (by with_reducible assumption) ?_) | (refine de_meth (by with_reducible assumption) (by with_reducible assumption) (by with_reducible assumption) ?hroom ?_; (case hroom => (first | with_reducible assumption | exact Room.mono (by assumption) (by decide) | fail))) | (refine de_meth0 (by with_reducible assumption) (by with_reducible assumption) (by with_reducible assumption) ?hroom ?_; (case hroom => (first | with_reducible assumption | exact Room.mono (by assumption) (by decide) | fail))))) | (refine g_dict ?_; refine de_disp ?_) | (refine g_lam ?_; refine de_lamM (by with_reducible assumption) (by with_reducible assumption) (by with_reducible assumption) ?_; intro _ _) | fail) | (refine g_acons ?_; refine da_cons ?_) | ((with_reducible refine g_Ex ?_); first | with_reducible refine ex_tv ?_ | with_reducible refine ex_int ?_ | with_reducible refine ex_int2 ?_ | with_reducible refine ex_bl ?_ | with_reducible refine ex_str ?_ | with_reducible refine ex_1v ?_ | ((with_reducible refine' ex_call ?exa ?exb ?exc ?_); (case exa => (first | rfl | (repeat (first | exact rsvs_nil | refine' rsvs_v ?_ | refine' rsvs_s (by rfl) ?_ | refine' rsvs_p (by rfl) ?_)))); (case exb => rfl); (case exc => first | exact List.nodup_nil | exact List.nodup_singleton _ | (simp [slots]; done) | fail)) | ((with_reducible refine' ex_takes ?exa ?_); (case exa => (repeat (first | exact Takes.nil | apply Takes.cons Take.v | apply Takes.cons (Take.s (by rfl)) | apply Takes.cons (Take.p (by rfl)))))) | ((with_reducible refine' ex_ts ?exa ?_); (case exa => rfl)) | ((with_reducible refine' ex_1s ?exa ?_); (case exa => rfl)) | with_reducible refine ex_one ?_ | ((with_reducible refine' ex_look ?exa ?_); (case exa => first | rfl | assumption | fail)) | ((with_reducible refine' ex_meth ?exa ?exb ?_); (case exa => first | rfl | exact rsv_p (by rfl) | fail); (case exb => rfl)) | with_reducible refine ex_d ?_) | (refine g_Ex ?_; first | refine ⟨_, _, _, _, _, _, rfl, Take.v, Take.v, ?_⟩ | refine ⟨_, _, rfl, (by first | with_reducible assumption | (with_reducible show _ = _; rfl) | fail), ?_⟩ | refine ⟨_, (by rfl), ?_⟩ | refine ⟨_, _, rfl, ?_⟩) | ((with_reducible refine g_And ?_); first | ((with_reducible refine And.intro (a := Imm _) ?andi ?_); (case andi => (first | ((with_reducible repeat' (first | exact imm_int | exact imm_str | exact imm_bl | exact imm_non | exact imm_opq | exact imm_nil | assumption | refine imm_cons ?_ ?_ | refine imm_tup ?_ | exact imm_keyTk | refine imm_tk ?_ | refine imm_cut ?_ | exact imm_fzi | refine imm_app ?_ ?_ | exact imm_map fun _ => imm_int | exact imm_strsD | exact rngD_imm | exact imm_oD _ | exact imm_oDs _ | exact imm_lam)); done) | fail))) | refine And.intro (show IsDct _ _ from .inl ⟨_, (by first | rfl | exact rsv_p (by rfl) | fail)⟩) ?_ | refine And.intro (RgOk.of_le (by omega) (by omega) (by omega) (by omega)) ?_ | refine And.intro (show scal _ _ = true by rfl) ?_ | refine And.intro (show IsLst _ _ from ⟨_, (by first | rfl | exact rsv_p (by rfl) | fail)⟩) ?_ | refine And.intro (show _ ≤ sizeLine by (first | with_reducible assumption | decide | (rw [sizeLine_eq]; simp; done) | (rw [sizeLine_eq]; simp; omega) | fail)) ?_ | refine br_rev ?_ | refine br_sw ?_ | refine br_true ?_ | refine br_false ?_ | refine br_T (by first | rfl | assumption | fail) ?_ | refine br_F (by first | rfl | assumption | fail) ?_ | refine br_int (fun _ => ?_) (fun _ => ?_) | refine br_dec (fun _ => ?_) (fun _ => ?_) | refine br_nint (fun _ => ?_) (fun _ => ?_) | refine br_ndec (fun _ => ?_) (fun _ => ?_) | refine And.intro (show List.Nodup _ ∧ _ from ⟨by decide +kernel, by decide +kernel⟩) ?_ | ((with_reducible refine And.intro (a := (0 : Int) < _) ?andz ?_); (case andz => decide)) | refine And.intro (Or.inr ⟨by decide, by decide⟩) ?_ | refine And.intro ⟨by decide, by decide, by decide⟩ ?_ | (refine And.intro ?andl ?_; (case andl => first | with_reducible assumption | omega))) | (refine g_GetS ?_; first | refine GetS.seqpi (by rfl) (by rfl) (by first | rfl | exact atI_zero | fail) (by (first | ((with_reducible repeat' (first | exact imm_int | exact imm_str | exact imm_bl | exact imm_non | exact imm_opq | exact imm_nil | assumption | refine imm_cons ?_ ?_ | refine imm_tup ?_ | exact imm_keyTk | refine imm_tk ?_ | refine imm_cut ?_ | exact imm_fzi | refine imm_app ?_ ?_ | exact imm_map fun _ => imm_int | exact imm_strsD | exact rngD_imm | exact imm_oD _ | exact imm_oDs _ | exact imm_lam)); done) | fail)) ?_ | refine GetS.seq (by first | rfl | exact rsv_p (by rfl) | fail) (by rfl) (by first | rfl | exact atI_zero | fail) (by (first | ((with_reducible repeat' (first | exact imm_int | exact imm_str | exact imm_bl | exact imm_non | exact imm_opq | exact imm_nil | assumption | refine imm_cons ?_ ?_ | refine imm_tup ?_ | exact imm_keyTk | refine imm_tk ?_ | refine imm_cut ?_ | exact imm_fzi | refine imm_app ?_ ?_ | exact imm_map fun _ => imm_int | exact imm_strsD | exact rngD_imm | exact imm_oD _ | exact imm_oDs _ | exact imm_lam)); done) | fail)) ?_ | refine GetS.dKstr (by first | rfl | exact rsv_p (by rfl) | fail) (by rfl) (by (first | ((with_reducible repeat' (first | exact imm_int | exact imm_str | exact imm_bl | exact imm_non | exact imm_opq | exact imm_nil | assumption | refine imm_cons ?_ ?_ | refine imm_tup ?_ | exact imm_keyTk | refine imm_tk ?_ | refine imm_cut ?_ | exact imm_fzi | refine imm_app ?_ ?_ | exact imm_map fun _ => imm_int | exact imm_strsD | exact rngD_imm | exact imm_oD _ | exact imm_oDs _ | exact imm_lam)); done) | fail)) ?_ | refine GetS.dKtS (by rfl) (by rfl) ?_ | (refine GetS.dKs (by rfl) (by rfl) ?_; intro _)) | refine da_nil ?_ | (refine g_DS ?_; first | (refine g_as ?_; first | (refine g_set ?_; refine ds_set (by with_reducible assumption) (by (first | with_reducible assumption | exact rfl | fail)) (by (first | exact Nm.sto (by with_reducible assumption) | exact Nm.stoC (by with_reducible assumption) (by assumption) | exact Nm.sto (by exact rfl) | fail)) (by (first | with_reducible assumption | exact unp_of (by with_reducible assumption) (by rfl) | fail)) ?_) | (refine g_setixT ?_; refine ds_putT (by with_reducible assumption) ?_) | (refine g_setix ?_; refine ds_sto (by with_reducible assumption) ?_) | (refine g_setfld ?_; refine ds_fld (by with_reducible assumption) ?_) | (refine g_asg ?_; refine ds_asgW ?_)) | refine ds_if ?_ | refine ds_ret ?_ | refine ds_retN ?_ | (refine g_expr ?_; refine ds_expr ?_) | refine ds_break ?_ | refine ds_continue ?_ | refine ds_pass ?_ | refine ds_raiseE (by with_reducible assumption) (by with_reducible assumption) (by with_reducible assumption) (by with_reducible assumption) (by (first | with_reducible assumption | exact rfl | fail)) ?_ | fail) | ((refine' db_consN ?hnf ?_); (case hnf => ((try simp only [List.set_cons_zero, List.set_cons_succ, backs, setR, clr, List.set_nil, List.map_cons, List.map_nil]); exact rfl))) | refine I2.mk ?_ | (refine g_AddS ?_; first | refine AddS.int ?_ | refine AddS.lst (by rfl) (by rfl) (by (first | ((with_reducible repeat' (first | exact imm_int | exact imm_str | exact imm_bl | exact imm_non | exact imm_opq | exact imm_nil | assumption | refine imm_cons ?_ ?_ | refine imm_tup ?_ | exact imm_keyTk | refine imm_tk ?_ | refine imm_cut ?_ | exact imm_fzi | refine imm_app ?_ ?_ | exact imm_map fun _ => imm_int | exact imm_strsD | exact rngD_imm | exact imm_oD _ | exact imm_oDs _ | exact imm_lam)); done) | fail)) (by (first | with_reducible assumption | decide | (rw [sizeLine_eq]; simp; done) | (rw [sizeLine_eq]; simp; omega) | fail)) ?_ | refine AddS.tup (by rfl) (by rfl) (by (first | ((with_reducible repeat' (first | exact imm_int | exact imm_str | exact imm_bl | exact imm_non | exact imm_opq | exact imm_nil | assumption | refine imm_cons ?_ ?_ | refine imm_tup ?_ | exact imm_keyTk | refine imm_tk ?_ | refine imm_cut ?_ | exact imm_fzi | refine imm_app ?_ ?_ | exact imm_map fun _ => imm_int | exact imm_strsD | exact rngD_imm | exact imm_oD _ | exact imm_oDs _ | exact imm_lam)); done) | fail)) (by (first | with_reducible assumption | decide | (rw [sizeLine_eq]; simp; done) | (rw [sizeLine_eq]; simp; omega) | fail)) ?_) | (refine g_DT ?_; first | (refine g_tcmp ?_; first | refine dt_lt ?_ | refine dt_le ?_ | refine dt_gt ?_ | refine dt_ge ?_ | refine dt_is ?_ | refine dt_isnot ?_ | refine dt_lele ?_ | refine dt_lelt ?_ | (refine g_cmpN ?_; first | refine dt_inKD (by with_reducible assumption) (by with_reducible assumption) (by (first | with_reducible assumption | exact rfl | fail)) (by with_reducible assumption) ?_ | refine dt_notinKD (by with_reducible assumption) (by with_reducible assumption) (by (first | with_reducible assumption | exact rfl | fail)) (by with_reducible assumption) ?_) | ((first | refine g_neLst ?_ | refine g_neTup ?_); refine dt_neD (by with_reducible assumption) ?_) | ((first | refine g_eqLst ?_ | refine g_eqTup ?_); refine dt_eqD (by with_reducible assumption) ?_) | refine dt_eqQ (by with_reducible assumption) ?_ | refine dt_neQ (by with_reducible assumption) ?_ | refine dt_inQ (by with_reducible assumption) ?_ | refine dt_notinQ (by with_reducible assumption) ?_) | refine dt_not ?_ | refine dt_pw (dw_and ?_) | refine dt_pw (dw_or ?_) | refine dt_val ?_ | fail) | (refine g_DTs ?_; first | refine dts_nil ?_ | refine dts_one ?_) | refine db_nil ?_ | (refine g_SeqS ?_; first | refine SeqS.seq (by rfl) (by rfl) (by (first | ((with_reducible repeat' (first | exact imm_int | exact imm_str | exact imm_bl | exact imm_non | exact imm_opq | exact imm_nil | assumption | refine imm_cons ?_ ?_ | refine imm_tup ?_ | exact imm_keyTk | refine imm_tk ?_ | refine imm_cut ?_ | exact imm_fzi | refine imm_app ?_ ?_ | exact imm_map fun _ => imm_int | exact imm_strsD | exact rngD_imm | exact imm_oD _ | exact imm_oDs _ | exact imm_lam)); done) | fail)) ?_ | refine SeqS.str ?_) | (refine g_LenQ ?_; first | refine LenQ.s (LenS.seq (by first | rfl | exact rsv_p (by rfl) | fail) (by rfl) ?_) | refine LenQ.s (LenS.str (by first | decide | assumption | fail) ?_) | refine LenQ.dT (by first | rfl | exact rsv_p (by rfl) | fail) ?_) | refine InQ.s (InS.flat (by first | rfl | exact rsv_p (by rfl) | fail) (by rfl) (by first | rfl | exact rsv_p (by rfl) | fail) (by rfl) (by rfl) (by rfl) (by rfl) ?_) | refine EqQ.l (L2s.mk (by rfl) (by rfl) ?_) | refine MulS.int (by first | exact Or.inr ⟨by decide, by decide⟩ | (first | with_reducible assumption | (left; constructor <;> omega) | (right; constructor <;> omega) | fail) | fail) ?_ | refine dw_and1 ?_ | refine dw_or1 ?_ | (refine g_DW ?_; first | refine dw_and ?_ | refine dw_or ?_) | (refine g_DO ?_; first | refine do_none ?_ | refine do_some ?_) | (refine g_DG ?_; first | refine dg_name (by with_reducible assumption) (by with_reducible assumption) (by (first | exact Nm.sto (by with_reducible assumption) | exact Nm.stoC (by with_reducible assumption) (by assumption) | exact Nm.sto (by exact rfl) | fail)) (by (first | with_reducible assumption | exact unp_of (by with_reducible assumption) (by rfl) | fail)) ?_ | refine dg_tup (by with_reducible assumption) ?_) | (refine g_DGw ?_; first | refine dgw_name (by with_reducible assumption) (by with_reducible assumption) (by (first | exact Nm.sto (by with_reducible assumption) | exact Nm.stoC (by with_reducible assumption) (by assumption) | exact Nm.sto (by exact rfl) | fail)) (by (first | with_reducible assumption | exact unp_of (by with_reducible assumption) (by rfl) | fail)) ?_ | refine dgw_tup (by with_reducible assumption) ?_ | refine dgw_attr (by with_reducible assumption) ?_) | (refine g_DGsw ?_; first | refine dgsw_cons ?_ | refine dgsw_nil ?_) | (refine g_DGs ?_; first | refine dgs_name ?_ | refine dgs_cons ?_ | refine dgs_nil ?_) | (refine g_InB ?_; intro X' b' B'; have J' := Blk.jn b' (by assumption); have r' := Blk.room b' (by assumption)) | (refine g_DPs ?_; first | refine dps_cons ?_ | refine dps_nil ?_) | (refine g_StoS ?_; first | refine StoS.lst (by first | rfl | exact rsv_p (by rfl) | fail) (by rfl) ?_ | refine StoS.dKstr (by first | rfl | exact rsv_p (by rfl) | fail) (by (first | ((with_reducible repeat' (first | exact imm_int | exact imm_str | exact imm_bl | exact imm_non | exact imm_opq | exact imm_nil | assumption | refine imm_cons ?_ ?_ | refine imm_tup ?_ | exact imm_keyTk | refine imm_tk ?_ | refine imm_cut ?_ | exact imm_fzi | refine imm_app ?_ ?_ | exact imm_map fun _ => imm_int | exact imm_strsD | exact rngD_imm | exact imm_oD _ | exact imm_oDs _ | exact imm_lam)); done) | fail)) (Nat.le_trans (Nat.le_of_ble_eq_true (m := 1000) (by rfl)) (by rw [sizeLine_eq]; decide)) ?_) | (refine g_FldS ?_; first | refine FldS.immP (by rfl) (by rfl) (by with_reducible assumption) (by with_reducible repeat (first | exact List.mem_cons_self | apply List.mem_cons_of_mem)) (by (first | ((with_reducible repeat' (first | exact imm_int | exact imm_str | exact imm_bl | exact imm_non | exact imm_opq | exact imm_nil | assumption | refine imm_cons ?_ ?_ | refine imm_tup ?_ | exact imm_keyTk | refine imm_tk ?_ | refine imm_cut ?_ | exact imm_fzi | refine imm_app ?_ ?_ | exact imm_map fun _ => imm_int | exact imm_strsD | exact rngD_imm | exact imm_oD _ | exact imm_oDs _ | exact imm_lam)); done) | fail)) ?_ | refine FldS.imm (by first | rfl | exact rsv_p (by rfl) | fail) (by rfl) (by with_reducible assumption) (by with_reducible repeat (first | exact List.mem_cons_self | apply List.mem_cons_of_mem)) (by (first | ((with_reducible repeat' (first | exact imm_int | exact imm_str | exact imm_bl | exact imm_non | exact imm_opq | exact imm_nil | assumption | refine imm_cons ?_ ?_ | refine imm_tup ?_ | exact imm_keyTk | refine imm_tk ?_ | refine imm_cut ?_ | exact imm_fzi | refine imm_app ?_ ?_ | exact imm_map fun _ => imm_int | exact imm_strsD | exact rngD_imm | exact imm_oD _ | exact imm_oDs _ | exact imm_lam)); done) | fail)) ?_ | refine FldS.tagS (by rfl) (by rfl) (by with_reducible assumption) (by with_reducible repeat (first | exact List.mem_cons_self | apply List.mem_cons_of_mem)) ?_ | refine FldS.tagP (by rfl) (by rfl) (by with_reducible assumption) (by with_reducible repeat (first | exact List.mem_cons_self | apply List.mem_cons_of_mem)) ?_ | (refine FldS.s (by rfl) (by rfl) (by with_reducible assumption) (by with_reducible repeat (first | exact List.mem_cons_self | apply List.mem_cons_of_mem)) ?_; intro _) | (refine FldS.p (by rfl) (by rfl) (by with_reducible assumption) (by with_reducible repeat (first | exact List.mem_cons_self | apply List.mem_cons_of_mem)) ?_; intro _)) | (refine g_PutS ?_; first | refine PutS.old (by rfl) (by rfl) (by with_reducible assumption) (by with_reducible repeat (first | exact List.mem_cons_self | apply List.mem_cons_of_mem)) (Nat.le_of_ble_eq_true (by rfl)) ?_ | refine PutS.new (by rfl) (by rfl) (by with_reducible assumption) (by with_reducible repeat (first | exact List.mem_cons_self | apply List.mem_cons_of_mem)) (Nat.le_of_ble_eq_true (by rfl)) ?_) | refine AppQ.mk (by first | rfl | exact rsv_p (by rfl) | fail) (by (first | with_reducible assumption | decide | (rw [sizeLine_eq]; simp; done) | (rw [sizeLine_eq]; simp; omega) | fail)) ?_ | refine StS.mk (by first | rfl | exact rsv_p (by rfl) | fail) (by rfl) (by first | with_reducible assumption | (simp; omega) | (simp; done) | fail) ?_ | refine IntsS.mk (by first | rfl | exact rsv_p (by rfl) | fail) ?_ | refine TwoI.mk ?_ | refine IsiS.mk (by rfl) (by rfl) (by (with_reducible first | exact kb_NoneType_bool | exact kb_NoneType_str | exact kb_NoneType_int | exact kb_NoneType_tuple | exact kb_NoneType_list | exact kb_NoneType_dict | exact kb_bool_bool | exact kb_bool_str | exact kb_bool_int | exact kb_bool_tuple | exact kb_bool_list | exact kb_bool_dict | exact kb_int_bool | exact kb_int_str | exact kb_int_int | exact kb_int_tuple | exact kb_int_list | exact kb_int_dict | exact kb_str_bool | exact kb_str_str | exact kb_str_int | exact kb_str_tuple | exact kb_str_list | exact kb_str_dict | exact kb_tuple_bool | exact kb_tuple_str | exact kb_tuple_int | exact kb_tuple_tuple | exact kb_tuple_list | exact kb_tuple_dict | exact kb_list_bool | exact kb_list_str | exact kb_list_int | exact kb_list_tuple | exact kb_list_list | exact kb_list_dict | fail)) ?_ | (refine g_SlS ?_; first | refine SlS.lst (by rfl) (by (first | ((with_reducible repeat' (first | exact imm_int | exact imm_str | exact imm_bl | exact imm_non | exact imm_opq | exact imm_nil | assumption | refine imm_cons ?_ ?_ | refine imm_tup ?_ | exact imm_keyTk | refine imm_tk ?_ | refine imm_cut ?_ | exact imm_fzi | refine imm_app ?_ ?_ | exact imm_map fun _ => imm_int | exact imm_strsD | exact rngD_imm | exact imm_oD _ | exact imm_oDs _ | exact imm_lam)); done) | fail)) ?_ | refine SlS.str (by (first | with_reducible assumption | decide | (rw [sizeLine_eq]; simp; done) | (rw [sizeLine_eq]; simp; omega) | fail)) ?_ | refine SlS.tup (by rfl) (by (first | ((with_reducible repeat' (first | exact imm_int | exact imm_str | exact imm_bl | exact imm_non | exact imm_opq | exact imm_nil | assumption | refine imm_cons ?_ ?_ | refine imm_tup ?_ | exact imm_keyTk | refine imm_tk ?_ | refine imm_cut ?_ | exact imm_fzi | refine imm_app ?_ ?_ | exact imm_map fun _ => imm_int | exact imm_strsD | exact rngD_imm | exact imm_oD _ | exact imm_oDs _ | exact imm_lam)); done) | fail)) ?_) | (refine g_IsN ?_; first | refine IsN.yes ?_ | refine IsN.no (by first | rfl | exact rsv_p (by rfl) | fail) (by intro v h; cases h <;> (intro q; cases q)) (by intro v e q; cases q) ?_) | (refine g_EqS ?_; first | refine eqs_nilT (n := 6) (by rfl) (by first | assumption | ((repeat' (first | exact shp_int | exact shp_bl | exact shp_non | assumption | refine shp_lst ?_ | refine shp_tup ?_ | exact shp_all_nil | refine shp_all_cons ?_ ?_ | exact shp_all_map fun _ => shp_int)); done) | fail) (by decide) ?_ | refine eqs_nil (n := 6) (by rfl) (by first | assumption | ((repeat' (first | exact shp_int | exact shp_bl | exact shp_non | assumption | refine shp_lst ?_ | refine shp_tup ?_ | exact shp_all_nil | refine shp_all_cons ?_ ?_ | exact shp_all_map fun _ => shp_int)); done) | fail) (by decide) ?_) | refine SeqC.mk (by rfl) (by rfl) (by (first | ((with_reducible repeat' (first | exact imm_int | exact imm_str | exact imm_bl | exact imm_non | exact imm_opq | exact imm_nil | assumption | refine imm_cons ?_ ?_ | refine imm_tup ?_ | exact imm_keyTk | refine imm_tk ?_ | refine imm_cut ?_ | exact imm_fzi | refine imm_app ?_ ?_ | exact imm_map fun _ => imm_int | exact imm_strsD | exact rngD_imm | exact imm_oD _ | exact imm_oDs _ | exact imm_lam)); done) | fail)) ?_ | refine IntS.int ?_ | refine IntS.bl ?_ | refine StrS.str ?_ | refine AppS.s (by rfl) (by (first | with_reducible assumption | decide | (rw [sizeLine_eq]; simp; done) | (rw [sizeLine_eq]; simp; omega) | fail)) ?_ | refine keyD_str ?_ | refine keyD_int ?_ | fail)))
local macro_rules | `(tactic| allgen_close2_more) => `(tactic| ((refine' db_consN ?hnf ?_); (case hnf => ((try simp only [List.set_cons_zero, List.set_cons_succ, backs, setR, clr, List.set_nil, List.map_cons, List.map_nil]); exact rfl))))
local macro_rules | `(tactic| allgen_close_more) => `(tactic| (refine de_name (by with_reducible assumption) (by with_reducible assumption) (by (with_reducible exact Nm.vis (k := .local) (by assumption) rfl)) (by rfl) (by (((with_reducible (exact imm_int)); done))) ?_))
local macro_rules | `(tactic| bits_by_make) => `(tactic| (refine de_slot (by with_reducible assumption) (by with_reducible assumption) (by (with_reducible exact Nm.vis (k := .local) (by assumption) rfl)) (by rfl) ?_))
local macro_rules | `(tactic| cell_call) => `(tactic| (refine ds_set (by with_reducible assumption) (by (with_reducible assumption)) (by (exact Nm.sto (by with_reducible assumption))) (by (exact unp_of (by with_reducible assumption) (by rfl))) ?_))
local macro_rules | `(tactic| fold_depth) => `(tactic| (refine de_name (by with_reducible assumption) (by with_reducible assumption) (by (with_reducible exact Nm.vis (k := .local) (by assumption) rfl)) (by rfl) (by (((with_reducible (assumption)); done))) ?_))
local macro_rules | `(tactic| fold_lay) => `(tactic| (refine dg_name (by with_reducible assumption) (by with_reducible assumption) (by (exact Nm.sto (by with_reducible assumption))) (by (exact unp_of (by with_reducible assumption) (by rfl))) ?_))
local macro_rules | `(tactic| got_up) => `(tactic| (refine de_call (by with_reducible assumption) (by with_reducible assumption) (by with_reducible assumption) ?hroom (by (with_reducible assumption)) ?_; (case hroom => (exact Room.mono (by assumption) (by decide)))))
local macro_rules | `(tactic| isplit) => `(tactic| (refine de_slot (by with_reducible assumption) (by with_reducible assumption) (by (with_reducible exact Nm.vis (k := .cell) (by assumption) rfl)) (by rfl) ?_))
local macro_rules | `(tactic| k_allIn) => `(tactic| ((with_reducible refine' ex_call ?exa ?exb ?exc ?_); (case exa => (rfl)); (case exb => rfl); (case exc => (simp [slots]; done))))
local macro_rules | `(tactic| k_caught0) => `(tactic| (refine de_name (by with_reducible assumption) (by with_reducible assumption) (by (with_reducible exact Nm.vis (k := .local) (by assumption) rfl)) (by rfl) (by (((with_reducible (refine imm_tup ?_; assumption)); done))) ?_))
local macro_rules | `(tactic| k_caughtB) => `(tactic| (intro X' b' B'; have J' := Blk.jn b' (by assumption); have r' := Blk.room b' (by assumption)))
local macro_rules | `(tactic| k_caughtN0) => `(tactic| (refine de_lenQ (by with_reducible assumption) (by with_reducible assumption) (by (with_reducible assumption)) (by with_reducible assumption) ?_))
local macro_rules | `(tactic| k_caughtNB) => `(tactic| (refine de_name (by with_reducible assumption) (by with_reducible assumption) (by (with_reducible exact Nm.vis (k := .local) (by assumption) rfl)) (by rfl) (by (((with_reducible (refine imm_tup ?_; refine imm_cons ?_ ?_; exact imm_str; assumption)); done))) ?_))
local macro_rules | `(tactic| k_clsL) => `(tactic| (refine And.intro (show _ ≤ sizeLine by ((rw [sizeLine_eq]; simp; done))) ?_))
local macro_rules | `(tactic| k_intsEnd) => `(tactic| (refine dg_name (by with_reducible assumption) (by with_reducible assumption) (by (exact Nm.sto (by exact rfl))) (by (exact unp_of (by with_reducible assumption) (by rfl))) ?_))
local macro_rules | `(tactic| k_memK) => `(tactic| (refine de_call (by with_reducible assumption) (by with_reducible assumption) (by with_reducible assumption) ?hroom (by (with_reducible assumption)) ?_; (case hroom => (with_reducible assumption))))
local macro_rules | `(tactic| k_offL) => `(tactic| (refine And.intro ?andl ?_; (case andl => with_reducible assumption)))
local macro_rules | `(tactic| k_ownIn) => `(tactic| (refine da_cons ?_))
local macro_rules | `(tactic| k_places) => `(tactic| (refine de_name (by with_reducible assumption) (by with_reducible assumption) (by (exact Nm.vis (k := .local) (by exact rfl) rfl)) (by rfl) (by (((with_reducible (exact imm_int)); done))) ?_))
local macro_rules | `(tactic| k_subL) => `(tactic| ((with_reducible refine' ex_takes ?exa ?_); (case exa => ((apply Takes.cons Take.v; apply Takes.cons Take.v; apply Takes.cons Take.v; exact Takes.nil)))))
local macro_rules | `(tactic| k_upd) => `(tactic| (refine de_get (by with_reducible assumption) ?_))
local macro_rules | `(tactic| k_updF) => `(tactic| (refine de_name (by with_reducible assumption) (by with_reducible assumption) (by (with_reducible exact Nm.vis (k := .local) (by assumption) rfl)) (by rfl) (by (((with_reducible (refine imm_tup ?_; refine imm_cons ?_ ?_; refine imm_tup ?_; assumption; refine imm_cons ?_ ?_; refine imm_tup ?_; assumption; exact imm_nil)); done))) ?_))
local macro_rules | `(tactic| kaf_pre) => `(tactic| ((with_reducible refine' ex_takes ?exa ?_); (case exa => ((apply Takes.cons Take.v; apply Takes.cons Take.v; exact Takes.nil)))))
local macro_rules | `(tactic| kaf_suf) => `(tactic| (with_reducible refine ex_tv ?_))
local macro_rules | `(tactic| kas_types) => `(tactic| (refine And.intro ?andl ?_; (case andl => omega)))
local macro_rules | `(tactic| kat_tups) => `(tactic| (refine de_slot (by with_reducible assumption) (by with_reducible assumption) (by (exact Nm.vis (k := .cell) (by exact rfl) rfl)) (by rfl) ?_))
local macro_rules | `(tactic| kba_ints) => `(tactic| ((with_reducible refine And.intro (a := (0 : Int) < _) ?andz ?_); (case andz => decide)))
local macro_rules | `(tactic| walk_at "h:is_number") => `(tactic| (have : Sl n_is_number 0 "thing" := rfl; have : Nm (defScope s_is_number) "thing" .local := rfl; have : Nm (defScope s_is_number) "isinstance" .globalImplicit := rfl; have : Nm (defScope s_is_number) "int" .globalImplicit := rfl; have : Nm (defScope s_is_number) "bool" .globalImplicit := rfl; have : PlN "thing" := pl_thing; have : PlN "isinstance" := pl_isinstance; have : PlN "int" := pl_int; have : PlN "bool" := pl_bool; (show DB _ _ [some _] (defBody s_is_number) _)))
section
variable {P : Program} {w : World} {K : PySem.W.Frag} {mg : Str → Option Value} {base : Heap}
theorem ok_is_number {f : Addr} {fd : FuncData} (F : L2.Fun K "is_number" "is_number" s_is_number f fd) (hi : mg "isinstance" = none) (h1 : mg "int" = none) (h2 : mg "bool" = none) : FnOk P w K mg base CX0 1 f fd p_is_number (spD K 1 preIsNum) := by
  refine okD (N := n_is_number) [false] F sc_is_number rfl (by decide) ?_ ?_
  · rintro ds Φ _ ⟨d, t, rfl, _, hi, _⟩
    exact imm_at0 (imm_cons hi imm_nil)
  · rintro X f ds Φ B hF J hr hp _ ⟨d, t, rfl, ht, him, k⟩
    walk_at "h:is_number"
    cases ht <;> (walk_at "go"; exact k)
end
local macro_rules | `(tactic| walk_at "h:why_row") => `(tactic| (have : Sl n_why_row 0 "row" := rfl; have : Sl n_why_row 1 "worths" := rfl; have : Sl n_why_row 2 "rows" := rfl; have : Sl n_why_row 3 "shape" := rfl; have : Sl n_why_row 4 "kind" := rfl; have : Sl n_why_row 5 "part" := rfl; have : Nm (defScope s_why_row) "row" .local := rfl; have : Nm (defScope s_why_row) "worths" .local := rfl; have : Nm (defScope s_why_row) "rows" .local := rfl; have : Nm (defScope s_why_row) "shape" .local := rfl; have : Nm (defScope s_why_row) "kind" .local := rfl; have : Nm (defScope s_why_row) "part" .local := rfl; have : Nm (defScope s_why_row) "isinstance" .globalImplicit := rfl; have : Nm (defScope s_why_row) "tuple" .globalImplicit := rfl; have : Nm (defScope s_why_row) "len" .globalImplicit := rfl; have : Nm (defScope s_why_row) "str" .globalImplicit := rfl; have : Nm (defScope s_why_row) "SHAPES" .globalImplicit := rfl; have : Nm (defScope s_why_row) "zip" .globalImplicit := rfl; have : PlN "row" := pl_row; have : PlN "worths" := pl_worths; have : PlN "rows" := pl_rows; have : PlN "shape" := pl_shape; have : PlN "kind" := pl_kind; have : PlN "part" := pl_part; have : PlN "isinstance" := pl_isinstance; have : PlN "tuple" := pl_tuple; have : PlN "len" := pl_len; have : PlN "str" := pl_str; have : PlN "SHAPES" := pl_SHAPES; have : PlN "zip" := pl_zip; (show DB _ _ [some _, some _, some _, none, none, none] (defBody s_why_row) _)))
section
variable {P : Program} {w : World} {K : PySem.W.Frag} {mg : Str → Option Value} {base : Heap}
theorem ok_why_row {f : Addr} {fd : FuncData} (F : L2.Fun K "why_row" "why_row" s_why_row f fd) (hi : mg "isinstance" = none) (h1 : mg "tuple" = none) (h2 : mg "str" = none) (h3 : mg "len" = none) (h4 : mg "zip" = none) (S : KD K w mg "SHAPES" shapes) (G : GFn P w K mg base 1 "is_number" 1 preIsNum) : FnOk P w K mg base CX0 2 f fd p_why_row (spD K 3 preWhyOk) := by
  refine okD (N := n_why_row) [false, false, false] F sc_why_row rfl (by decide) ?_ ?_
  · rintro ds Φ _ ⟨r, nw, nr, rfl, _⟩
    exact imm_at0 (imm_cons r.imm (imm_cons imm_int (imm_cons imm_int imm_nil)))
  · rintro X f ds Φ B hF J hr hp _ ⟨r, nw, nr, rfl, ok, k⟩
    walk_at "h:why_row"
    have ia : ∀ x ∈ r.args.map D.int, Imm x := imm_map fun _ => imm_int
    have lk : (shapes.lookup r.nm).isSome = true := by rw [r.look]; rfl
    have lk2 := r.look
    have e0 : decide (V.int ((D.str r.nm :: r.args.map D.int).length : Nat) = V.int 0) = false := by simp; omega
    have e1 : decide (V.int ((D.str r.nm :: r.args.map D.int).length : Nat) = V.int ((r.sh.length : Nat) + 1)) = true := by simp [r.shl]
    have e2 : r.sh.length ≤ sizeLine := by rw [r.shl, sizeLine_eq]; cases r <;> simp [Row.args]
    unfold Row.d
    (focus (allgen_close2_more; refine ds_if ?_; refine dt_pw (dw_or ?_); refine dt_not ?_; refine dt_val ?_; refine de_isi (by with_reducible assumption) (by with_reducible assumption) (by (with_reducible assumption)) (by with_reducible assumption) ?_; k_ownIn; k_caughtNB; k_ownIn; refine de_tyName (by with_reducible assumption) (by with_reducible assumption) (by (with_reducible assumption)) (by with_reducible assumption) (by (with_reducible exact _root_.PyProof.Rows.boot_tuple)) ?_; refine da_nil ?_; refine IsiS.mk (by rfl) (by rfl) (by (with_reducible exact kb_tuple_tuple)) ?_; (with_reducible refine ex_bl ?_); refine br_rev ?_; refine br_sw ?_; refine br_true ?_; refine dw_or ?_; refine dt_eqQ (by with_reducible assumption) ?_; k_caughtN0; k_ownIn; k_caughtNB; refine da_nil ?_; refine LenQ.s (LenS.seq (by rfl) (by rfl) ?_); refine de_int ?_; refine EqQ.l (L2s.mk (by rfl) (by rfl) ?_); refine And.intro (show scal _ _ = true by rfl) ?_; refine br_rev ?_; refine br_false ?_; refine dw_or ?_; refine dt_not ?_; refine dt_val ?_; refine de_isi (by with_reducible assumption) (by with_reducible assumption) (by (with_reducible assumption)) (by with_reducible assumption) ?_; k_ownIn; k_upd; k_caughtNB; refine de_int ?_; (refine GetS.seq (by rfl) (by rfl) (by exact atI_zero) (by (((with_reducible (exact imm_str)); done))) ?_); k_ownIn; refine de_tyName (by with_reducible assumption) (by with_reducible assumption) (by (with_reducible assumption)) (by with_reducible assumption) (by (with_reducible exact _root_.PyProof.Rows.boot_str)) ?_; refine da_nil ?_; refine IsiS.mk (by rfl) (by rfl) (by (with_reducible exact kb_str_str)) ?_; (with_reducible refine ex_bl ?_); refine br_rev ?_; refine br_sw ?_; refine br_true ?_; refine dw_or1 ?_; refine dt_notinKD (by with_reducible assumption) (by with_reducible assumption) (by (with_reducible assumption)) (by with_reducible assumption) ?_; k_upd; k_caughtNB; refine de_int ?_; (refine GetS.seq (by rfl) (by rfl) (by exact atI_zero) (by (((with_reducible (exact imm_str)); done))) ?_); (with_reducible refine ex_str ?_); refine br_sw ?_; refine br_T (by assumption) ?_; refine db_nil ?_; allgen_close2_more; cell_call; refine de_ixKD (by with_reducible assumption) (by with_reducible assumption) (by (with_reducible assumption)) (by with_reducible assumption) ?_; k_upd; k_caughtNB; refine de_int ?_; (refine GetS.seq (by rfl) (by rfl) (by exact atI_zero) (by (((with_reducible (exact imm_str)); done))) ?_); ((with_reducible refine' ex_look ?exa ?_); (case exa => assumption)); kaf_suf; allgen_close2_more; refine ds_if ?_; refine dt_pw (dw_or ?_); refine dt_neQ (by with_reducible assumption) ?_; k_caughtN0; k_ownIn; k_caughtNB; refine da_nil ?_; refine LenQ.s (LenS.seq (by rfl) (by rfl) ?_); refine de_add ?_; k_caughtN0; k_ownIn; (refine de_name (by with_reducible assumption) (by with_reducible assumption) (by (with_reducible exact Nm.vis (k := .local) (by assumption) rfl)) (by rfl) (by (((with_reducible (exact imm_str)); done))) ?_); refine da_nil ?_; refine LenQ.s (LenS.str (by assumption) ?_); refine de_int ?_; refine AddS.int ?_; refine EqQ.l (L2s.mk (by rfl) (by rfl) ?_); refine And.intro (show scal _ _ = true by rfl) ?_; refine br_rev ?_; refine br_sw ?_; refine br_T (by assumption) ?_; refine dw_or1 ?_; ((refine g_neLst ?_); refine dt_neD (by with_reducible assumption) ?_)))
    · refine de_lc (own := [("part", 5)]) (by assumption) (by walk_at "blk") (by walk_at "pins") (di_seq ?_)
      (focus (refine de_slice ?_; k_caughtNB; refine do_some ?_; refine de_int ?_; (with_reducible refine ex_int ?_); refine do_none ?_; (refine SlS.tup (by rfl) (by (((with_reducible (refine imm_cons ?_ ?_; exact imm_str; assumption)); done))) ?_); (refine SeqS.seq (by rfl) (by rfl) (by (((with_reducible (refine imm_cut ?_; refine imm_cons ?_ ?_; exact imm_str; assumption)); done))) ?_)))
      rw [cutA_tail]
      refine lc_none rfl (by rw [List.length_map, sizeLine_eq]; cases r <;> simp [Row.args]) (fun i d hd => ?_) ?_
      · rw [List.getElem?_map] at hd
        cases hq : r.args[i]? with
        | none => rw [hq] at hd; cases hd
        | some q =>
          rw [hq] at hd
          cases hd
          unfold Turn1
          (focus (k_caughtB; k_intsEnd; k_caughtB; refine dts_one ?_; refine dt_not ?_; refine dt_val ?_; (refine de_call (by with_reducible assumption) (by with_reducible assumption) (by with_reducible assumption) ?hroom (by (exact rfl)) ?_; (case hroom => (with_reducible assumption))); k_ownIn; k_places; refine da_nil ?_; ((with_reducible refine' ex_call ?exa ?exb ?exc ?_); (case exa => (rfl)); (case exb => rfl); (case exc => exact List.nodup_nil))))
          refine ⟨_, _, rfl, .int, imm_int, ?_⟩
          (focus ((with_reducible refine ex_bl ?_); refine br_sw ?_; refine br_true ?_))
          exact ⟨rfl, rfl⟩
      · (focus (refine de_list ?_; refine da_nil ?_; ((with_reducible refine' ex_takes ?exa ?_); (case exa => ((exact Takes.nil)))); refine And.intro (show _ ≤ sizeLine by (decide)) ?_; (refine eqs_nil (n := 6) (by rfl) (by (((refine shp_lst ?_; exact shp_all_nil)); done)) (by decide) ?_); refine br_sw ?_; refine br_true ?_; refine db_nil ?_; allgen_close2_more))
        refine ds_for (by assumption) (di_zip (by assumption) (by assumption) (by walk_at "nm") (by assumption) ?_)
        (focus (k_ownIn; (refine de_name (by with_reducible assumption) (by with_reducible assumption) (by (with_reducible exact Nm.vis (k := .local) (by assumption) rfl)) (by rfl) (by (((with_reducible (exact imm_str)); done))) ?_); k_ownIn; refine de_slice ?_; k_caughtNB; refine do_some ?_; refine de_int ?_; (with_reducible refine ex_int ?_); refine do_none ?_; (refine SlS.tup (by rfl) (by (((with_reducible (refine imm_cons ?_ ?_; exact imm_str; assumption)); done))) ?_); refine da_nil ?_; refine ⟨_, _, rfl, ?_⟩; refine SeqS.str ?_; (refine SeqS.seq (by rfl) (by rfl) (by (((with_reducible (refine imm_cut ?_; refine imm_cons ?_ ?_; exact imm_str; assumption)); done))) ?_)))
        rw [cutA_tail]
        refine ⟨rfl, fun i δ => ∃ kd pd, δ = [some (.tup (.str r.nm :: r.args.map .int)), some (.int nw), some (.int nr), some (.str r.sh), kd, pd], ⟨_, _, rfl⟩, ?_, ?_⟩
        · rintro i d δ2 hd ⟨kd, pd, rfl⟩
          obtain ⟨a, b, ha, hb, rfl⟩ := ziD_get hd
          obtain ⟨c, hc, rfl⟩ := signs_get ha
          obtain ⟨q, hq, rfl⟩ := map_get hb
          refine ⟨[4, 5], ?_⟩
          rcases Row.at ok hc hq with ⟨rfl, h3, h4⟩ | ⟨rfl, h3, h4⟩
          · have e3 : decide (0 ≤ q) = true := by simpa using h3
            have e4 : decide (q < nw) = true := by simpa using h4
            (focus (refine dg_tup (by with_reducible assumption) ?_; refine dgs_name ?_; fold_lay; refine dgs_name ?_; fold_lay; refine dgs_nil ?_; allgen_close2_more; refine ds_if ?_; refine dt_not ?_; refine dt_lelt ?_; refine de_int ?_; allgen_close_more; refine I2.mk ?_; refine br_T (by assumption) ?_; refine de_if ?_; refine dt_eqQ (by with_reducible assumption) ?_; (refine de_name (by with_reducible assumption) (by with_reducible assumption) (by (with_reducible exact Nm.vis (k := .local) (by assumption) rfl)) (by rfl) (by (((with_reducible (exact imm_str)); done))) ?_); refine de_str ?_; refine EqQ.l (L2s.mk (by rfl) (by rfl) ?_); refine And.intro (show scal _ _ = true by rfl) ?_; refine br_true ?_; allgen_close_more; (with_reducible refine ex_int ?_); refine br_sw ?_; refine br_T (by assumption) ?_; refine db_nil ?_; refine db_nil ?_))
            exact ⟨_, _, rfl⟩
          · have e3 : decide (0 ≤ q) = true := by simpa using h3
            have e4 : decide (q < nr) = true := by simpa using h4
            (focus (refine dg_tup (by with_reducible assumption) ?_; refine dgs_name ?_; fold_lay; refine dgs_name ?_; fold_lay; refine dgs_nil ?_; allgen_close2_more; refine ds_if ?_; refine dt_not ?_; refine dt_lelt ?_; refine de_int ?_; allgen_close_more; refine I2.mk ?_; refine br_T (by assumption) ?_; refine de_if ?_; refine dt_eqQ (by with_reducible assumption) ?_; (refine de_name (by with_reducible assumption) (by with_reducible assumption) (by (with_reducible exact Nm.vis (k := .local) (by assumption) rfl)) (by rfl) (by (((with_reducible (exact imm_str)); done))) ?_); refine de_str ?_; refine EqQ.l (L2s.mk (by rfl) (by rfl) ?_); refine And.intro (show scal _ _ = true by rfl) ?_; refine br_false ?_; allgen_close_more; (with_reducible refine ex_int ?_); refine br_sw ?_; refine br_T (by assumption) ?_; refine db_nil ?_; refine db_nil ?_))
            exact ⟨_, _, rfl⟩
        · rintro δ2 ⟨kd, pd, rfl⟩
          (focus (allgen_close2_more; refine ds_ret ?_; refine de_non ?_; kaf_suf; refine ⟨_, (by rfl), ?_⟩))
          exact k
end
local macro_rules | `(tactic| walk_at "h:need_program") => `(tactic| (have : Sl n_need_program 0 "program" := rfl; have : Sl n_need_program 1 "worths" := rfl; have : Sl n_need_program 2 "rows" := rfl; have : Sl n_need_program 3 "number" := rfl; have : Sl n_need_program 4 "row" := rfl; have : Sl n_need_program 5 "why" := rfl; have : Sl n_need_program 6 "worth" := rfl; have : Nm (defScope s_need_program) "program" .local := rfl; have : Nm (defScope s_need_program) "worths" .local := rfl; have : Nm (defScope s_need_program) "rows" .local := rfl; have : Nm (defScope s_need_program) "number" .local := rfl; have : Nm (defScope s_need_program) "row" .local := rfl; have : Nm (defScope s_need_program) "why" .local := rfl; have : Nm (defScope s_need_program) "len" .globalImplicit := rfl; have : Nm (defScope s_need_program) "MOST_WORTHS" .globalImplicit := rfl; have : Nm (defScope s_need_program) "BadProgram" .globalImplicit := rfl; have : Nm (defScope s_need_program) "MOST_ROWS" .globalImplicit := rfl; have : Nm (defScope s_need_program) "enumerate" .globalImplicit := rfl; have : Nm (defScope s_need_program) "why_row" .globalImplicit := rfl; have : PlN "program" := pl_program; have : PlN "worths" := pl_worths; have : PlN "rows" := pl_rows; have : PlN "number" := pl_number; have : PlN "row" := pl_row; have : PlN "why" := pl_why; have : PlN "worth" := pl_worth; have : PlN "len" := pl_len; have : PlN "MOST_WORTHS" := pl_MOST_WORTHS; have : PlN "BadProgram" := pl_BadProgram; have : PlN "MOST_ROWS" := pl_MOST_ROWS; have : PlN "enumerate" := pl_enumerate; have : PlN "why_row" := pl_why_row; (show DB _ _ [some _, none, none, none, none, none, none] (defBody s_need_program) _)))
section
variable {P : Program} {w : World} {K : PySem.W.Frag} {mg : Str → Option Value} {base : Heap}
theorem ok_need_program {f : Addr} {fd : FuncData} (F : L2.Fun K "need_program" "need_program" s_need_program f fd) (h3 : mg "len" = none) (h4 : mg "enumerate" = none) (c1 : GlobD K mg "MOST_WORTHS" (.int 8)) (c2 : GlobD K mg "MOST_ROWS" (.int 40)) (c3 : GlobD K mg "MOST_NUMBER" (.int 1000000)) (G : GFn P w K mg base 2 "why_row" 3 preWhyOk) : FnOk P w K mg base CX0 3 f fd p_need_program (spD K 1 preNeedOk) := by
  refine okD (N := n_need_program) [false] F sc_need_program rfl (by decide) ?_ ?_
  · rintro ds Φ _ ⟨p, rfl, _⟩
    exact imm_at0 (imm_cons p.imm imm_nil)
  · rintro X f ds Φ B hF J hr hp _ ⟨p, rfl, ok, k⟩
    walk_at "h:need_program"
    have ia : ∀ x ∈ p.ws.map D.int, Imm x := imm_map fun _ => imm_int
    have ib : ∀ x ∈ p.rows.map Row.d, Imm x := rows_imm
    have e0 : decide ((8 : Int) < ((p.ws.map D.int).length : Nat)) = false := by have := ok.wl; simp; omega
    have e1 : decide ((1 : Int) ≤ ((p.rows.map Row.d).length : Nat)) = true := by have := ok.r0; simp; omega
    have e2 : decide (((p.rows.map Row.d).length : Int) ≤ 40) = true := by have := ok.rl; simp; omega
    unfold Prog.d
    (focus (allgen_close2_more; refine ds_asgW ?_; k_updF; kaf_suf; refine dgw_tup (by with_reducible assumption) ?_; refine dgsw_cons ?_; refine dgw_name (by with_reducible assumption) (by with_reducible assumption) (by (exact Nm.sto (by with_reducible assumption))) (by (exact unp_of (by with_reducible assumption) (by rfl))) ?_; refine dgsw_cons ?_; refine dgw_name (by with_reducible assumption) (by with_reducible assumption) (by (exact Nm.sto (by with_reducible assumption))) (by (exact unp_of (by with_reducible assumption) (by rfl))) ?_; refine dgsw_nil ?_; allgen_close2_more; refine ds_if ?_; refine dt_gt ?_; k_caughtN0; k_ownIn; k_caught0; refine da_nil ?_; refine LenQ.s (LenS.seq (by rfl) (by rfl) ?_); refine de_glob (by with_reducible assumption) (by with_reducible assumption) (by (with_reducible assumption)) (by with_reducible assumption) ?_; refine I2.mk ?_; refine br_F (by assumption) ?_; refine db_nil ?_; allgen_close2_more; refine ds_if ?_; ((refine g_neLst ?_); refine dt_neD (by with_reducible assumption) ?_)))
    · refine de_lc (own := [("worth", 6)]) (by assumption) (by walk_at "blk") (by walk_at "pins") (di_seq ?_)
      (focus (k_caught0; (refine SeqS.seq (by rfl) (by rfl) (by (((with_reducible (assumption)); done))) ?_)))
      refine lc_none rfl (by have := ok.wl; rw [List.length_map, sizeLine_eq]; omega) (fun i d hd => ?_) ?_
      · obtain ⟨q, hq, rfl⟩ := map_get hd
        have hv := ok.wv q (List.mem_of_getElem? hq)
        have e3 : decide ((0 : Int) - 1000000 ≤ q) = true := by simp; omega
        have e4 : decide (q ≤ 1000000) = true := by simp; omega
        unfold Turn1
        (focus (k_caughtB; k_intsEnd; k_caughtB; refine dts_one ?_; refine dt_not ?_; refine dt_lele ?_; refine de_sub ?_; refine de_int ?_; refine de_glob (by with_reducible assumption) (by with_reducible assumption) (by (exact rfl)) (by with_reducible assumption) ?_; refine I2.mk ?_; k_places; refine I2.mk ?_; refine br_T (by assumption) ?_; refine de_glob (by with_reducible assumption) (by with_reducible assumption) (by (exact rfl)) (by with_reducible assumption) ?_; (with_reducible refine ex_int ?_); refine br_sw ?_; refine br_T (by assumption) ?_))
        exact ⟨rfl, rfl⟩
      · (focus (refine de_list ?_; refine da_nil ?_; ((with_reducible refine' ex_takes ?exa ?_); (case exa => ((exact Takes.nil)))); refine And.intro (show _ ≤ sizeLine by (decide)) ?_; (refine eqs_nil (n := 6) (by rfl) (by (((refine shp_lst ?_; exact shp_all_nil)); done)) (by decide) ?_); refine br_sw ?_; refine br_true ?_; refine db_nil ?_; allgen_close2_more; refine ds_if ?_; refine dt_not ?_; refine dt_lele ?_; refine de_int ?_; k_caughtN0; k_ownIn; k_caught0; refine da_nil ?_; refine LenQ.s (LenS.seq (by rfl) (by rfl) ?_); refine I2.mk ?_; refine br_T (by assumption) ?_; refine de_glob (by with_reducible assumption) (by with_reducible assumption) (by (with_reducible assumption)) (by with_reducible assumption) ?_; (with_reducible refine ex_int ?_); refine br_sw ?_; refine br_T (by assumption) ?_; refine db_nil ?_; allgen_close2_more))
        refine ds_for (by assumption) (di_enum (by assumption) (by assumption) (by walk_at "nm") (by assumption) ?_)
        (focus (k_ownIn; k_caught0; refine da_nil ?_; (with_reducible refine ex_one ?_); (refine SeqS.seq (by rfl) (by rfl) (by (((with_reducible (assumption)); done))) ?_)))
        refine ⟨rfl, fun i δ => ∃ a b c, δ = [some p.d, some (.tup (p.ws.map .int)), some (.tup (p.rows.map Row.d)), a, b, c, none], ⟨_, _, _, rfl⟩, ?_, ?_⟩
        · rintro i d δ2 hd ⟨a, b, c, rfl⟩
          obtain ⟨d, hr', rfl⟩ := enD_get hd
          obtain ⟨r, hr2, rfl⟩ := map_get hr'
          have hv := ok.rv r (List.mem_of_getElem? hr2)
          have ic := r.imm
          refine ⟨[3, 4], ?_⟩
          (focus (refine dg_tup (by with_reducible assumption) ?_; refine dgs_name ?_; fold_lay; refine dgs_name ?_; fold_lay; refine dgs_nil ?_; allgen_close2_more; cell_call; k_memK; k_ownIn; fold_depth; k_ownIn; k_caughtN0; k_ownIn; k_caught0; refine da_nil ?_; refine LenQ.s (LenS.seq (by rfl) (by rfl) ?_); k_ownIn; k_caughtN0; k_ownIn; k_caught0; refine da_nil ?_; refine LenQ.s (LenS.seq (by rfl) (by rfl) ?_); refine da_nil ?_; ((with_reducible refine' ex_call ?exa ?exb ?exc ?_); (case exa => (rfl)); (case exb => rfl); (case exc => exact List.nodup_nil))))
          refine ⟨r, _, _, rfl, by simpa using hv, ?_⟩
          (focus (kaf_suf; allgen_close2_more; refine ds_if ?_; refine dt_isnot ?_; (refine de_name (by with_reducible assumption) (by with_reducible assumption) (by (with_reducible exact Nm.vis (k := .local) (by assumption) rfl)) (by rfl) (by (((with_reducible (exact imm_non)); done))) ?_); refine de_non ?_; refine IsN.yes ?_; refine br_sw ?_; refine br_true ?_; refine db_nil ?_; refine db_nil ?_))
          exact ⟨_, _, _, rfl⟩
        · rintro δ2 ⟨a, b, c, rfl⟩
          (focus (refine db_nil ?_; refine ⟨_, (by rfl), ?_⟩))
          exact k
end
local macro_rules | `(tactic| walk_at "h:need_wide") => `(tactic| (have : Sl n_need_wide 0 "wide" := rfl; have : Nm (defScope s_need_wide) "wide" .local := rfl; have : Nm (defScope s_need_wide) "LEAST_WIDE" .globalImplicit := rfl; have : Nm (defScope s_need_wide) "MOST_WIDE" .globalImplicit := rfl; have : Nm (defScope s_need_wide) "BadLaying" .globalImplicit := rfl; have : PlN "wide" := pl_wide; have : PlN "LEAST_WIDE" := pl_LEAST_WIDE; have : PlN "MOST_WIDE" := pl_MOST_WIDE; have : PlN "BadLaying" := pl_BadLaying; (show DB _ _ [some _] (defBody s_need_wide) _)))
section
variable {P : Program} {w : World} {K : PySem.W.Frag} {mg : Str → Option Value} {base : Heap}
theorem ok_need_wide {f : Addr} {fd : FuncData} (F : L2.Fun K "need_wide" "need_wide" s_need_wide f fd) (c1 : GlobD K mg "LEAST_WIDE" (.int 2)) (c2 : GlobD K mg "MOST_WIDE" (.int 24)) : FnOk P w K mg base CX0 1 f fd p_need_wide (spD K 1 preWide) := by
  refine okD (N := n_need_wide) [false] F sc_need_wide rfl (by decide) ?_ ?_
  · rintro ds Φ _ ⟨n, rfl, _⟩
    exact imm_at0 (imm_cons imm_int imm_nil)
  · rintro X f ds Φ B hF J hr hp _ ⟨n, rfl, n0, n1, k⟩
    walk_at "h:need_wide"
    have e0 : decide ((2 : Int) ≤ n) = true := by simpa using n0
    have e1 : decide (n ≤ (24 : Int)) = true := by simpa using n1
    (focus (allgen_close2_more; refine ds_if ?_; refine dt_not ?_; refine dt_lele ?_; refine de_glob (by with_reducible assumption) (by with_reducible assumption) (by (with_reducible assumption)) (by with_reducible assumption) ?_; allgen_close_more; refine I2.mk ?_; refine br_T (by assumption) ?_; refine de_glob (by with_reducible assumption) (by with_reducible assumption) (by (with_reducible assumption)) (by with_reducible assumption) ?_; (with_reducible refine ex_int ?_); refine br_sw ?_; refine br_T (by assumption) ?_; refine db_nil ?_; refine db_nil ?_; refine ⟨_, (by rfl), ?_⟩))
    exact k
end
local macro_rules | `(tactic| walk_at "h:is_home") => `(tactic| (have : Sl n_is_home 0 "home" := rfl; have : Sl n_is_home 1 "wide" := rfl; have : Sl n_is_home 2 "place" := rfl; have : Nm (defScope s_is_home) "home" .local := rfl; have : Nm (defScope s_is_home) "wide" .cell := rfl; have : Nm (defScope s_is_home) "len" .globalImplicit := rfl; have : Nm (defScope s_is_home) "MOST_HOMES" .globalImplicit := rfl; have : Nm (defScope s_is_home) "sorted" .globalImplicit := rfl; have : Nm (defScope s_is_home) "set" .globalImplicit := rfl; have : Nm (defScope s_is_home) "list" .globalImplicit := rfl; have : PlN "home" := pl_home; have : PlN "wide" := pl_wide; have : PlN "place" := pl_place; have : PlN "len" := pl_len; have : PlN "MOST_HOMES" := pl_MOST_HOMES; have : PlN "sorted" := pl_sorted; have : PlN "set" := pl_set; have : PlN "list" := pl_list; (show DB _ _ [some _, some _, none] (defBody s_is_home) _)))
section
variable {P : Program} {w : World} {K : PySem.W.Frag} {mg : Str → Option Value} {base : Heap}
theorem srtU_self {l : List Int} (h : l.Pairwise (· < ·)) : srtU l = l := rise_uniq (srtU_sorted l) h fun _ => srtU_mem
theorem ok_is_home {f : Addr} {fd : FuncData} (F : L2.Fun K "is_home" "is_home" s_is_home f fd) (h1 : mg "len" = none) (h2 : mg "sorted" = none) (h3 : mg "set" = none) (h4 : mg "list" = none) (c1 : GlobD K mg "MOST_HOMES" (.int 3)) : FnOk P w K mg base CX0 1 f fd p_is_home (spD K 2 preIsHome) := by
  refine okD (N := n_is_home) [false, false] F sc_is_home rfl (by decide) ?_ ?_
  · rintro ds Φ _ ⟨h, v, rfl, _⟩
    exact imm_at0 (imm_cons (homeD_imm h) (imm_cons imm_int imm_nil))
  · rintro X f ds Φ B hF J hr hp _ ⟨h, v, rfl, ⟨⟨l1, l3⟩, hs, hv⟩, k⟩
    walk_at "h:is_home"
    have ia : ∀ x ∈ h.map D.int, Imm x := imm_map fun _ => imm_int
    have e1 : decide ((1 : Int) ≤ ((h.map D.int).length : Nat)) = true := by simp; omega
    have e2 : decide ((((h.map D.int).length : Nat) : Int) ≤ 3) = true := by simp; omega
    have l63 : h.length ≤ 63 := by omega
    have es := srtU_self hs
    unfold homeD
    (focus (allgen_close2_more; refine ds_if ?_; refine dt_pw (dw_or ?_); refine dt_not ?_; refine dt_lele ?_; refine de_int ?_; k_caughtN0; k_ownIn; k_caught0; refine da_nil ?_; refine LenQ.s (LenS.seq (by rfl) (by rfl) ?_); refine I2.mk ?_; refine br_T (by assumption) ?_; refine de_glob (by with_reducible assumption) (by with_reducible assumption) (by (with_reducible assumption)) (by with_reducible assumption) ?_; (with_reducible refine ex_int ?_); refine br_rev ?_; refine br_sw ?_; refine br_T (by assumption) ?_; refine dw_or1 ?_; refine dt_neQ (by with_reducible assumption) ?_; refine de_sortSet (by with_reducible assumption) (by with_reducible assumption) (by (with_reducible assumption)) (by with_reducible assumption) (by (with_reducible assumption)) (by with_reducible assumption) ?_; k_ownIn; k_caught0; refine da_nil ?_; refine StS.mk (by rfl) (by rfl) (by with_reducible assumption) ?_; refine de_listc (by with_reducible assumption) (by with_reducible assumption) (by (with_reducible assumption)) (by with_reducible assumption) ?_; k_ownIn; k_caught0; refine da_nil ?_; (refine SeqC.mk (by rfl) (by rfl) (by (((with_reducible (assumption)); done))) ?_)))
    rw [es]
    refine eqS_self (n := 6) rfl rfl (shp_lst (shp_all_map fun _ => shp_int)) (by decide) ?_
    (focus (refine br_sw ?_; refine br_true ?_; refine db_nil ?_; allgen_close2_more; refine ds_ret ?_; refine de_eqQ (by with_reducible assumption) ?_))
    refine de_lcG (own := [("place", 2)]) (by assumption) (by walk_at "blk") (by walk_at "pins") (di_seq ?_)
    (focus (k_caught0; (refine SeqS.seq (by rfl) (by rfl) (by (((with_reducible (assumption)); done))) ?_)))
    refine lc_mapG h D.int (fun _ => none) rfl rfl rfl (by rw [sizeLine_eq]; omega) (fun i x hx => ?_) ?_
    · have hb := hv x (List.mem_of_getElem? hx)
      have e3 : decide ((0 : Int) ≤ x) = true := by simpa using hb.1
      have e4 : decide (x < v) = true := by simpa using hb.2
      unfold Turn1
      (focus (k_caughtB; k_intsEnd; k_caughtB; refine dts_one ?_; refine dt_not ?_; refine dt_lelt ?_; refine de_int ?_; k_places; refine I2.mk ?_; refine br_T (by assumption) ?_; (refine de_name (by with_reducible assumption) (by with_reducible assumption) (by (exact Nm.vis (k := .cell) (by exact rfl) rfl)) (by rfl) (by (((with_reducible (exact imm_int)); done))) ?_); (with_reducible refine ex_int ?_); refine br_sw ?_; refine br_T (by assumption) ?_))
      exact ⟨rfl, rfl⟩
    · have en : h.filterMap (fun _ => (none : Option D)) = [] := by simp
      rw [en]
      (focus (refine de_list ?_; refine da_nil ?_; ((with_reducible refine' ex_takes ?exa ?_); (case exa => ((exact Takes.nil)))); refine And.intro (show _ ≤ sizeLine by (decide)) ?_))
      refine eqS_self (d := .lst []) (n := 6) rfl rfl (shp_lst shp_all_nil) (by decide) ?_
      (focus (kaf_suf; refine ⟨_, (by rfl), ?_⟩))
      exact k
end
local macro_rules | `(tactic| walk_at "h:need_laying") => `(tactic| (have : Sl n_need_laying 0 "program" := rfl; have : Sl n_need_laying 1 "laying" := rfl; have : Sl n_need_laying 2 "wide" := rfl; have : Sl n_need_laying 3 "places" := rfl; have : Sl n_need_laying 4 "homes" := rfl; have : Sl n_need_laying 5 "row" := rfl; have : Sl n_need_laying 6 "place" := rfl; have : Sl n_need_laying 7 "worth" := rfl; have : Sl n_need_laying 8 "home" := rfl; have : Nm (defScope s_need_laying) "program" .local := rfl; have : Nm (defScope s_need_laying) "laying" .local := rfl; have : Nm (defScope s_need_laying) "wide" .local := rfl; have : Nm (defScope s_need_laying) "places" .local := rfl; have : Nm (defScope s_need_laying) "homes" .local := rfl; have : Nm (defScope s_need_laying) "row" .local := rfl; have : Nm (defScope s_need_laying) "place" .local := rfl; have : Nm (defScope s_need_laying) "worth" .local := rfl; have : Nm (defScope s_need_laying) "home" .local := rfl; have : Nm (defScope s_need_laying) "need_wide" .globalImplicit := rfl; have : Nm (defScope s_need_laying) "len" .globalImplicit := rfl; have : Nm (defScope s_need_laying) "BadLaying" .globalImplicit := rfl; have : Nm (defScope s_need_laying) "enumerate" .globalImplicit := rfl; have : Nm (defScope s_need_laying) "is_home" .globalImplicit := rfl; have : PlN "program" := pl_program; have : PlN "laying" := pl_laying; have : PlN "wide" := pl_wide; have : PlN "places" := pl_places; have : PlN "homes" := pl_homes; have : PlN "row" := pl_row; have : PlN "place" := pl_place; have : PlN "worth" := pl_worth; have : PlN "home" := pl_home; have : PlN "need_wide" := pl_need_wide; have : PlN "len" := pl_len; have : PlN "BadLaying" := pl_BadLaying; have : PlN "enumerate" := pl_enumerate; have : PlN "is_home" := pl_is_home; (show DB _ _ [some _, some _, none, none, none, none, none, none, none] (defBody s_need_laying) _)))
section
variable {P : Program} {w : World} {K : PySem.W.Frag} {mg : Str → Option Value} {base : Heap}
theorem ok_need_laying {f : Addr} {fd : FuncData} (F : L2.Fun K "need_laying" "need_laying" s_need_laying f fd) (h1 : mg "len" = none) (h2 : mg "enumerate" = none) (G1 : GFn P w K mg base 1 "need_wide" 1 preWide) (G2 : GFn P w K mg base 1 "is_home" 2 preIsHome) : FnOk P w K mg base CX0 2 f fd p_need_laying (spD K 2 preNeedLay) := by
  refine okD (N := n_need_laying) [false, false] F sc_need_laying rfl (by decide) ?_ ?_
  · rintro ds Φ _ ⟨p, l, rfl, _⟩
    exact imm_at0 (imm_cons p.imm (imm_cons l.imm imm_nil))
  · rintro X f ds Φ B hF J hr hp _ ⟨p, l, rfl, okp, okl, k⟩
    walk_at "h:need_laying"
    have ia : ∀ x ∈ p.ws.map D.int, Imm x := imm_map fun _ => imm_int
    have ib : ∀ x ∈ p.rows.map Row.d, Imm x := rows_imm
    have ip : ∀ x ∈ l.pl.map D.int, Imm x := imm_map fun _ => imm_int
    have ih : ∀ x ∈ l.hm.map homeD, Imm x := imm_map homeD_imm
    have e1 : decide (V.int ((l.pl.map D.int).length : Nat) = V.int ((p.rows.map Row.d).length : Nat)) = true := by simp [okl.pl]
    have e2 : decide (V.int ((l.hm.map homeD).length : Nat) = V.int ((p.ws.map D.int).length : Nat)) = true := by simp [okl.hl]
    obtain ⟨w1, w2⟩ := okl.w
    unfold Prog.d Lay.d
    (focus (allgen_close2_more; refine ds_asgW ?_; (refine de_name (by with_reducible assumption) (by with_reducible assumption) (by (with_reducible exact Nm.vis (k := .local) (by assumption) rfl)) (by rfl) (by (((with_reducible (refine imm_tup ?_; refine imm_cons ?_ ?_; exact imm_int; refine imm_cons ?_ ?_; refine imm_tup ?_; assumption; refine imm_cons ?_ ?_; refine imm_tup ?_; assumption; exact imm_nil)); done))) ?_); kaf_suf; refine dgw_tup (by with_reducible assumption) ?_; refine dgsw_cons ?_; refine dgw_name (by with_reducible assumption) (by with_reducible assumption) (by (exact Nm.sto (by with_reducible assumption))) (by (exact unp_of (by with_reducible assumption) (by rfl))) ?_; refine dgsw_cons ?_; refine dgw_name (by with_reducible assumption) (by with_reducible assumption) (by (exact Nm.sto (by with_reducible assumption))) (by (exact unp_of (by with_reducible assumption) (by rfl))) ?_; refine dgsw_cons ?_; refine dgw_name (by with_reducible assumption) (by with_reducible assumption) (by (exact Nm.sto (by with_reducible assumption))) (by (exact unp_of (by with_reducible assumption) (by rfl))) ?_; refine dgsw_nil ?_; allgen_close2_more; refine ds_expr ?_; k_memK; k_ownIn; allgen_close_more; refine da_nil ?_; ((with_reducible refine' ex_call ?exa ?exb ?exc ?_); (case exa => (rfl)); (case exb => rfl); (case exc => exact List.nodup_nil)); refine ⟨_, (by rfl), ?_⟩; k_offL; k_offL; allgen_close2_more; refine ds_if ?_; refine dt_neQ (by with_reducible assumption) ?_; k_caughtN0; k_ownIn; k_caught0; refine da_nil ?_; refine LenQ.s (LenS.seq (by rfl) (by rfl) ?_); k_caughtN0; k_ownIn; k_upd; k_updF; refine de_int ?_; (refine GetS.seq (by rfl) (by rfl) (by rfl) (by (((with_reducible (refine imm_tup ?_; assumption)); done))) ?_); refine da_nil ?_; refine LenQ.s (LenS.seq (by rfl) (by rfl) ?_); refine EqQ.l (L2s.mk (by rfl) (by rfl) ?_); refine And.intro (show scal _ _ = true by rfl) ?_; refine br_sw ?_; refine br_T (by assumption) ?_; refine db_nil ?_; allgen_close2_more))
    refine ds_for (by assumption) (di_enum (by assumption) (by assumption) (by walk_at "nm") (by assumption) ?_)
    (focus (k_ownIn; k_caught0; refine da_nil ?_; (with_reducible refine ex_one ?_); (refine SeqS.seq (by rfl) (by rfl) (by (((with_reducible (assumption)); done))) ?_)))
    refine ⟨rfl, fun i δ => ∃ x5 x6, δ = [some (.tup [.tup (p.ws.map .int), .tup (p.rows.map Row.d)]), some (.tup [.int l.wide, .tup (l.pl.map .int), .tup (l.hm.map homeD)]), some (.int l.wide), some (.tup (l.pl.map .int)), some (.tup (l.hm.map homeD)), x5, x6, none, none], ⟨_, _, rfl⟩, ?_, ?_⟩
    · rintro i d δ2 hd ⟨x5, x6, rfl⟩
      obtain ⟨d, hr', rfl⟩ := enD_get hd
      obtain ⟨q, hq, rfl⟩ := map_get hr'
      have hb := okl.pv q (List.mem_of_getElem? hq)
      have e3 : decide ((0 : Int) ≤ q) = true := by simpa using hb.1
      have e4 : decide (q < l.wide) = true := by simpa using hb.2
      refine ⟨[5, 6], ?_⟩
      (focus (refine dg_tup (by with_reducible assumption) ?_; refine dgs_name ?_; fold_lay; refine dgs_name ?_; fold_lay; refine dgs_nil ?_; allgen_close2_more; refine ds_if ?_; refine dt_not ?_; refine dt_lelt ?_; refine de_int ?_; allgen_close_more; refine I2.mk ?_; refine br_T (by assumption) ?_; allgen_close_more; (with_reducible refine ex_int ?_); refine br_sw ?_; refine br_T (by assumption) ?_; refine db_nil ?_; refine db_nil ?_))
      exact ⟨_, _, rfl⟩
    · rintro δ2 ⟨x5, x6, rfl⟩
      (focus (allgen_close2_more; refine ds_if ?_; refine dt_neQ (by with_reducible assumption) ?_; k_caughtN0; k_ownIn; k_caught0; refine da_nil ?_; refine LenQ.s (LenS.seq (by rfl) (by rfl) ?_); k_caughtN0; k_ownIn; k_upd; k_updF; refine de_int ?_; (refine GetS.seq (by rfl) (by rfl) (by rfl) (by (((with_reducible (refine imm_tup ?_; assumption)); done))) ?_); refine da_nil ?_; refine LenQ.s (LenS.seq (by rfl) (by rfl) ?_); refine EqQ.l (L2s.mk (by rfl) (by rfl) ?_); refine And.intro (show scal _ _ = true by rfl) ?_; refine br_sw ?_; refine br_T (by assumption) ?_; refine db_nil ?_; allgen_close2_more))
      refine ds_for (by assumption) (di_enum (by assumption) (by assumption) (by walk_at "nm") (by assumption) ?_)
      (focus (k_ownIn; k_caught0; refine da_nil ?_; (with_reducible refine ex_one ?_); (refine SeqS.seq (by rfl) (by rfl) (by (((with_reducible (assumption)); done))) ?_)))
      refine ⟨rfl, fun i δ => ∃ x5 x6 x7 x8, δ = [some (.tup [.tup (p.ws.map .int), .tup (p.rows.map Row.d)]), some (.tup [.int l.wide, .tup (l.pl.map .int), .tup (l.hm.map homeD)]), some (.int l.wide), some (.tup (l.pl.map .int)), some (.tup (l.hm.map homeD)), x5, x6, x7, x8], ⟨_, _, _, _, rfl⟩, ?_, ?_⟩
      · rintro i d δ2 hd ⟨x5, x6, x7, x8, rfl⟩
        obtain ⟨d, hr', rfl⟩ := enD_get hd
        obtain ⟨q, hq, rfl⟩ := map_get hr'
        have hb := okl.hv q (List.mem_of_getElem? hq)
        have iq := homeD_imm q
        refine ⟨[7, 8], ?_⟩
        (focus (refine dg_tup (by with_reducible assumption) ?_; refine dgs_name ?_; fold_lay; refine dgs_name ?_; fold_lay; refine dgs_nil ?_; allgen_close2_more; refine ds_if ?_; refine dt_not ?_; refine dt_val ?_; k_memK; k_ownIn; fold_depth; k_ownIn; allgen_close_more; refine da_nil ?_; ((with_reducible refine' ex_call ?exa ?exb ?exc ?_); (case exa => (rfl)); (case exb => rfl); (case exc => exact List.nodup_nil)); refine ⟨_, _, rfl, (by with_reducible assumption), ?_⟩; (with_reducible refine ex_bl ?_); refine br_sw ?_; refine br_true ?_; refine db_nil ?_; refine db_nil ?_))
        exact ⟨_, _, _, _, rfl⟩
      · rintro δ2 ⟨x5, x6, x7, x8, rfl⟩
        (focus (refine db_nil ?_; refine ⟨_, (by rfl), ?_⟩))
        exact k
end
local macro_rules | `(tactic| walk_at "h:spots") => `(tactic| (have : Sl n_spots 0 "program" := rfl; have : Sl n_spots 1 "laying" := rfl; have : Sl n_spots 2 "wide" := rfl; have : Sl n_spots 3 "places" := rfl; have : Sl n_spots 4 "homes" := rfl; have : Sl n_spots 5 "taken" := rfl; have : Sl n_spots 6 "rows" := rfl; have : Sl n_spots 7 "place" := rfl; have : Sl n_spots 8 "worths" := rfl; have : Sl n_spots 9 "home" := rfl; have : Nm (defScope s_spots) "program" .local := rfl; have : Nm (defScope s_spots) "laying" .local := rfl; have : Nm (defScope s_spots) "wide" .local := rfl; have : Nm (defScope s_spots) "places" .local := rfl; have : Nm (defScope s_spots) "homes" .local := rfl; have : Nm (defScope s_spots) "taken" .cell := rfl; have : Nm (defScope s_spots) "rows" .local := rfl; have : Nm (defScope s_spots) "place" .local := rfl; have : Nm (defScope s_spots) "worths" .local := rfl; have : Nm (defScope s_spots) "home" .local := rfl; have : Nm (defScope s_spots) "tuple" .globalImplicit := rfl; have : Nm (defScope s_spots) "max" .globalImplicit := rfl; have : PlN "program" := pl_program; have : PlN "laying" := pl_laying; have : PlN "wide" := pl_wide; have : PlN "places" := pl_places; have : PlN "homes" := pl_homes; have : PlN "taken" := pl_taken; have : PlN "rows" := pl_rows; have : PlN "place" := pl_place; have : PlN "worths" := pl_worths; have : PlN "home" := pl_home; have : PlN "tuple" := pl_tuple; have : PlN "max" := pl_max; (show DB _ _ [some _, some _, none, none, none, none, none, none, none, none] (defBody s_spots) _)))
section
variable {P : Program} {w : World} {K : PySem.W.Frag} {mg : Str → Option Value} {base : Heap}
theorem ok_spots {f : Addr} {fd : FuncData} (F : L2.Fun K "spots" "spots" s_spots f fd) (h1 : mg "tuple" = none) (h2 : mg "max" = none) : FnOk P w K mg base CX0 1 f fd p_spots (spD K 2 preSpots) := by
  refine okD (N := n_spots) [false, false] F sc_spots rfl (by decide) ?_ ?_
  · rintro ds Φ _ ⟨p, l, rfl, _⟩
    exact imm_at0 (imm_cons p.imm (imm_cons l.imm imm_nil))
  · rintro X f ds Φ B hF J hr hp _ ⟨p, l, rfl, okp, ok, k⟩
    walk_at "h:spots"
    have ia : ∀ x ∈ p.ws.map D.int, Imm x := imm_map fun _ => imm_int
    have ib : ∀ x ∈ p.rows.map Row.d, Imm x := rows_imm
    have ip : ∀ x ∈ l.pl.map D.int, Imm x := imm_map fun _ => imm_int
    have ih : ∀ x ∈ l.hm.map homeD, Imm x := imm_map homeD_imm
    have ipp := p.imm
    have ill := l.imm
    have rl := okp.rl
    have wl := okp.wl
    have w2 := ok.w
    have lpl : l.pl.length ≤ 60 := (ok.sz (by omega) (by omega)).pl
    have lhl : l.hm.length ≤ 60 := (ok.sz (by omega) (by omega)).hm
    unfold Lay.d
    (focus (allgen_close2_more; refine ds_asgW ?_; (refine de_name (by with_reducible assumption) (by with_reducible assumption) (by (with_reducible exact Nm.vis (k := .local) (by assumption) rfl)) (by rfl) (by (((with_reducible (refine imm_tup ?_; refine imm_cons ?_ ?_; exact imm_int; refine imm_cons ?_ ?_; refine imm_tup ?_; assumption; refine imm_cons ?_ ?_; refine imm_tup ?_; assumption; exact imm_nil)); done))) ?_); kaf_suf; refine dgw_tup (by with_reducible assumption) ?_; refine dgsw_cons ?_; refine dgw_name (by with_reducible assumption) (by with_reducible assumption) (by (exact Nm.sto (by with_reducible assumption))) (by (exact unp_of (by with_reducible assumption) (by rfl))) ?_; refine dgsw_cons ?_; refine dgw_name (by with_reducible assumption) (by with_reducible assumption) (by (exact Nm.sto (by with_reducible assumption))) (by (exact unp_of (by with_reducible assumption) (by rfl))) ?_; refine dgsw_cons ?_; refine dgw_name (by with_reducible assumption) (by with_reducible assumption) (by (exact Nm.sto (by with_reducible assumption))) (by (exact unp_of (by with_reducible assumption) (by rfl))) ?_; refine dgsw_nil ?_; allgen_close2_more; refine ds_set (by with_reducible assumption) (by (with_reducible assumption)) (by (exact Nm.stoC (by with_reducible assumption) (by assumption))) (by (exact unp_of (by with_reducible assumption) (by rfl))) ?_; refine de_mulG ?_; refine de_list ?_; k_ownIn; refine de_int ?_; refine da_nil ?_; ((with_reducible refine' ex_takes ?exa ?_); (case exa => ((apply Takes.cons Take.v; exact Takes.nil)))); refine And.intro (show _ ≤ sizeLine by (decide)) ?_; allgen_close_more))
    refine MulS.rep rfl (imm_cons imm_int imm_nil) ⟨by omega, by simp; omega, by rw [sizeLine_eq]; simp; omega⟩ ?_
    have erep : (List.replicate l.wide.toNat [D.int 0]).flatten = (takenL l.wide []).map D.int := by
      rw [takenL_nil]
      generalize l.wide.toNat = z
      induction z with
      | zero => rfl
      | succ z ih => rw [List.replicate_succ, List.flatten_cons, ih, List.replicate_succ]; rfl
    rw [erep]
    (focus (kaf_suf; allgen_close2_more; cell_call; refine de_list ?_; refine da_nil ?_; ((with_reducible refine' ex_takes ?exa ?_); (case exa => ((exact Takes.nil)))); refine And.intro (show _ ≤ sizeLine by (decide)) ?_; kaf_suf; allgen_close2_more))
    refine ds_for (by assumption) (di_seq ?_)
    (focus (k_caught0; (refine SeqS.seq (by rfl) (by rfl) (by (((with_reducible (assumption)); done))) ?_)))
    refine ⟨rfl, fun i δ => ∃ x7, δ = [some p.d, some l.d, some (.int l.wide), some (.tup (l.pl.map .int)), some (.tup (l.hm.map homeD)), some (.lst ((takenL l.wide (l.pl.take i)).map .int)), some (.lst ((spotsOf [] (l.pl.take i)).map pairD)), x7, none, none], ⟨_, by rfl⟩, ?_, ?_⟩
    · rintro i d δ2 hd ⟨x7, rfl⟩
      obtain ⟨q, hq, rfl⟩ := map_get hd
      refine ⟨[7], ?_⟩
      have hqb := ok.pv q (List.mem_of_getElem? hq)
      have eg := takenL_get (F := l.pl.take i) hqb.1 hqb.2
      have at1 : atI ((takenL l.wide (l.pl.take i)).map D.int) q = some (D.int (trackI (l.pl.take i) q)) := atI_map hqb.1 eg
      have hix : ixN ((takenL l.wide (l.pl.take i)).map D.int).length q = some q.toNat := ixN_nat hqb.1 (by rw [List.length_map, takenL_len]; omega)
      have hsl : ((spotsOf [] (l.pl.take i)).map pairD).length < sizeLine := by rw [List.length_map, spotsOf_len, List.length_take, sizeLine_eq]; omega
      (focus (fold_lay; allgen_close2_more; refine ds_expr ?_; refine de_appendQ ?_; bits_by_make; refine And.intro (show IsLst _ _ from ⟨_, (by rfl)⟩) ?_; k_ownIn; refine de_tup ?_; k_ownIn; allgen_close_more; k_ownIn; k_upd; isplit; allgen_close_more))
      refine GetS.seq rfl rfl at1 imm_int ?_
      (focus (refine da_nil ?_; kaf_pre; k_clsL; refine da_nil ?_; (with_reducible refine ex_1v ?_); refine AppQ.mk (by rfl) (by (with_reducible assumption)) ?_; allgen_close2_more; refine ds_sto (by with_reducible assumption) ?_; refine de_add ?_; k_upd; isplit; allgen_close_more))
      refine GetS.seq rfl rfl at1 imm_int ?_
      (focus (refine de_int ?_; refine AddS.int ?_; kaf_suf; isplit; allgen_close_more))
      refine StoS.lst rfl hix ?_
      (focus (refine db_nil ?_))
      refine ⟨some (.int q), ?_⟩
      have ei : l.pl.take (i + 1) = l.pl.take i ++ [q] := by rw [List.take_add_one, hq]; rfl
      rw [ei, ← takenL_step hqb.1 hqb.2, List.map_set, spotsOf_snoc, List.map_append]
      rfl
    · rintro δ2 ⟨x7, rfl⟩
      have e1 : l.pl.take ((l.pl.map D.int).length) = l.pl := by rw [List.length_map]; exact List.take_length
      rw [e1]
      (focus (allgen_close2_more; cell_call; refine de_list ?_; refine da_nil ?_; ((with_reducible refine' ex_takes ?exa ?_); (case exa => ((exact Takes.nil)))); refine And.intro (show _ ≤ sizeLine by (decide)) ?_; kaf_suf; allgen_close2_more))
      refine ds_for (by assumption) (di_seq ?_)
      (focus (k_caught0; (refine SeqS.seq (by rfl) (by rfl) (by (((with_reducible (assumption)); done))) ?_)))
      refine ⟨rfl, fun i δ => ∃ x7 x9, δ = [some p.d, some l.d, some (.int l.wide), some (.tup (l.pl.map .int)), some (.tup (l.hm.map homeD)), some (.lst ((takenL l.wide (l.pl ++ (l.hm.take i).flatten)).map .int)), some (.lst (l.rsp.map pairD)), x7, some (.lst ((homesSpots l.pl (l.hm.take i)).map wspD)), x9], ⟨x7, none, by simp [Lay.rsp]; rfl⟩, ?_, ?_⟩
      · rintro i d δ2 hd ⟨x7, x9, rfl⟩
        obtain ⟨h, hq, rfl⟩ := map_get hd
        refine ⟨[9], ?_⟩
        have hh := ok.hv h (List.mem_of_getElem? hq)
        have ihq := homeD_imm h
        have ihs : ∀ x ∈ h.map D.int, Imm x := imm_map fun _ => imm_int
        have lh : h.length ≤ 3 := hh.1.2
        have hsl : ((homesSpots l.pl (l.hm.take i)).map wspD).length < sizeLine := by rw [List.length_map, homesSpots_len, List.length_take, sizeLine_eq]; omega
        (focus (fold_lay; allgen_close2_more; refine ds_expr ?_; refine de_appendQ ?_; bits_by_make; refine And.intro (show IsLst _ _ from ⟨_, (by rfl)⟩) ?_; k_ownIn; refine de_tuplec (by with_reducible assumption) (by with_reducible assumption) (by (with_reducible assumption)) (by with_reducible assumption) ?_; k_ownIn))
        refine de_lcG (own := [("place", 7)]) (by assumption) (by walk_at "blk") (by walk_at "pins") (di_seq ?_)
        (focus (fold_depth; (refine SeqS.seq (by rfl) (by rfl) (by (((with_reducible (assumption)); done))) ?_)))
        refine lc_mapB h D.int (fun x => pairD (x, trackI (l.pl ++ (l.hm.take i).flatten) x)) rfl rfl rfl (by rw [sizeLine_eq]; omega) (fun j x hx => ?_) ?_
        · have hxb := hh.2.2 x (List.mem_of_getElem? hx)
          have eg := takenL_get (F := l.pl ++ (l.hm.take i).flatten) hxb.1 hxb.2
          have at1 : atI ((takenL l.wide (l.pl ++ (l.hm.take i).flatten)).map D.int) x = some (D.int (trackI (l.pl ++ (l.hm.take i).flatten) x)) := atI_map hxb.1 eg
          unfold Turn1
          (focus (k_caughtB; k_intsEnd; k_caughtB; refine dts_nil ?_; refine br_true ?_; k_caughtB; refine de_tup ?_; k_ownIn; k_places; k_ownIn; k_upd; kat_tups; k_places))
          refine GetS.seq rfl rfl at1 imm_int ?_
          (focus (refine da_nil ?_; kaf_pre; k_clsL; kaf_suf))
          exact ⟨rfl, rfl⟩
        · have iw := wspD_imm (homeSpots (l.pl ++ (l.hm.take i).flatten) h)
          have ew : D.tup (h.map fun x => pairD (x, trackI (l.pl ++ (l.hm.take i).flatten) x)) = wspD (homeSpots (l.pl ++ (l.hm.take i).flatten) h) := by unfold wspD homeSpots; rw [List.map_map]; rfl
          have im : ∀ x ∈ h.map (fun x => pairD (x, trackI (l.pl ++ (l.hm.take i).flatten) x)), Imm x := imm_map fun _ => pairD_imm _
          (focus (refine da_nil ?_; (refine SeqC.mk (by rfl) (by rfl) (by (((with_reducible (assumption)); done))) ?_); refine da_nil ?_; (with_reducible refine ex_1v ?_); refine AppQ.mk (by rfl) (by (with_reducible assumption)) ?_; allgen_close2_more))
          rw [ew]
          skip
          refine ds_for (by assumption) (di_seq ?_)
          (focus (fold_depth; (refine SeqS.seq (by rfl) (by rfl) (by (((with_reducible (assumption)); done))) ?_)))
          have ex : (homesSpots l.pl (l.hm.take i)).map wspD ++ [wspD (homeSpots (l.pl ++ (l.hm.take i).flatten) h)] = (homesSpots l.pl (l.hm.take (i + 1))).map wspD := by
            rw [List.take_add_one, hq]
            show _ = (homesSpots l.pl (l.hm.take i ++ [h])).map wspD
            rw [homesSpots_snoc, List.map_append]
            rfl
          rw [ex]
          refine ⟨rfl, fun j δ => ∃ x7, δ = [some p.d, some l.d, some (.int l.wide), some (.tup (l.pl.map .int)), some (.tup (l.hm.map homeD)), some (.lst ((takenL l.wide (l.pl ++ (l.hm.take i).flatten ++ h.take j)).map .int)), some (.lst (l.rsp.map pairD)), x7, some (.lst ((homesSpots l.pl (l.hm.take (i + 1))).map wspD)), some (homeD h)], ⟨none, by simp⟩, ?_, ?_⟩
          · rintro j d δ2 hd ⟨x7, rfl⟩
            obtain ⟨x, hx, rfl⟩ := map_get hd
            have hxb := hh.2.2 x (List.mem_of_getElem? hx)
            have eg := takenL_get (F := l.pl ++ (l.hm.take i).flatten ++ h.take j) hxb.1 hxb.2
            have at1 : atI ((takenL l.wide (l.pl ++ (l.hm.take i).flatten ++ h.take j)).map D.int) x = some (D.int (trackI (l.pl ++ (l.hm.take i).flatten ++ h.take j) x)) := atI_map hxb.1 eg
            have hix : ixN ((takenL l.wide (l.pl ++ (l.hm.take i).flatten ++ h.take j)).map D.int).length x = some x.toNat := ixN_nat hxb.1 (by rw [List.length_map, takenL_len]; omega)
            refine ⟨[7], ?_⟩
            (focus (fold_lay; allgen_close2_more; refine ds_sto (by with_reducible assumption) ?_; refine de_add ?_; k_upd; isplit; allgen_close_more))
            refine GetS.seq rfl rfl at1 imm_int ?_
            (focus (refine de_int ?_; refine AddS.int ?_; kaf_suf; isplit; allgen_close_more))
            refine StoS.lst rfl hix ?_
            (focus (refine db_nil ?_))
            refine ⟨some (.int x), ?_⟩
            have ei : h.take (j + 1) = h.take j ++ [x] := by rw [List.take_add_one, hx]; rfl
            rw [ei, ← List.append_assoc, ← takenL_step hxb.1 hxb.2, List.map_set]
            rfl
          · rintro δ2 ⟨x7, rfl⟩
            have e4 : h.take ((h.map D.int).length) = h := by rw [List.length_map]; exact List.take_length
            rw [e4]
            (focus (refine db_nil ?_))
            refine ⟨x7, some (homeD h), ?_⟩
            have ei : (l.hm.take (i + 1)).flatten = (l.hm.take i).flatten ++ h := by rw [List.take_add_one, hq]; simp
            rw [ei, ← List.append_assoc]
      · rintro δ2 ⟨x7, x9, rfl⟩
        have e2 : l.hm.take ((l.hm.map homeD).length) = l.hm := by rw [List.length_map]; exact List.take_length
        rw [e2]
        have e3 : 0 < (takenL l.wide (l.pl ++ l.hm.flatten)).length := by rw [takenL_len]; omega
        (focus (allgen_close2_more; refine ds_ret ?_; refine de_tup ?_; k_ownIn; bits_by_make; k_ownIn; bits_by_make; k_ownIn; refine de_maxL (by with_reducible assumption) (by with_reducible assumption) (by (with_reducible assumption)) (by with_reducible assumption) ?_; k_ownIn; isplit; refine da_nil ?_; refine IntsS.mk (by rfl) ?_; k_offL))
        intro m hm hle
        have em : m = l.top := hiL_uniq hm hle
        subst em
        (focus (refine da_nil ?_; ((with_reducible refine' ex_takes ?exa ?_); (case exa => ((apply Takes.cons (Take.s (by rfl)); apply Takes.cons (Take.s (by rfl)); apply Takes.cons Take.v; exact Takes.nil)))); k_clsL; kaf_suf; refine ⟨_, (by rfl), ?_⟩))
        exact k
end
local macro_rules | `(tactic| walk_at "h:cell_of") => `(tactic| (have : Sl n_cell_of 0 "row" := rfl; have : Sl n_cell_of 1 "rows" := rfl; have : Sl n_cell_of 2 "worths" := rfl; have : Sl n_cell_of 3 "found" := rfl; have : Sl n_cell_of 4 "kind" := rfl; have : Sl n_cell_of 5 "part" := rfl; have : Nm (defScope s_cell_of) "row" .local := rfl; have : Nm (defScope s_cell_of) "rows" .local := rfl; have : Nm (defScope s_cell_of) "worths" .local := rfl; have : Nm (defScope s_cell_of) "found" .local := rfl; have : Nm (defScope s_cell_of) "kind" .local := rfl; have : Nm (defScope s_cell_of) "part" .local := rfl; have : Nm (defScope s_cell_of) "zip" .globalImplicit := rfl; have : Nm (defScope s_cell_of) "SHAPES" .globalImplicit := rfl; have : Nm (defScope s_cell_of) "tuple" .globalImplicit := rfl; have : PlN "row" := pl_row; have : PlN "rows" := pl_rows; have : PlN "worths" := pl_worths; have : PlN "found" := pl_found; have : PlN "kind" := pl_kind; have : PlN "part" := pl_part; have : PlN "zip" := pl_zip; have : PlN "SHAPES" := pl_SHAPES; have : PlN "tuple" := pl_tuple; (show DB _ _ [some _, some _, some _, none, none, none] (defBody s_cell_of) _)))
section
variable {P : Program} {w : World} {K : PySem.W.Frag} {mg : Str → Option Value} {base : Heap}
theorem whatL_get {rs : List Spot} {ws : List (List Spot)} {r : Row} {i c : Nat} {q : Int} (hc : r.sh.cps.toList[i]? = some c) (hq : r.args[i]? = some q) : (whatL rs ws r)[i + 1]? = some (if c = 118 then wspD (homeAt ws q) else pairD (spotAt rs q)) := by
  cases r with
  | op o v x =>
    match i, hc, hq with
    | 0, hc, hq => cases hc; cases hq; rfl
    | 1, hc, hq => cases hc; cases hq; rfl
  | say x =>
    match i, hc, hq with
    | 0, hc, hq => cases hc; cases hq; rfl
  | test a b =>
    match i, hc, hq with
    | 0, hc, hq => cases hc; cases hq; rfl
    | 1, hc, hq => cases hc; cases hq; rfl
  | stop => cases hq
theorem whatL_step {rs : List Spot} {ws : List (List Spot)} {r : Row} {i : Nat} {d : D} (h : (whatL rs ws r)[i + 1]? = some d) : (whatL rs ws r).take (i + 1) ++ [d] = (whatL rs ws r).take (i + 1 + 1) := by
  rw [List.take_add_one (i := i + 1), h]
  rfl
theorem whatL_imm (rs : List Spot) (ws : List (List Spot)) (r : Row) : ∀ x ∈ whatL rs ws r, Imm x := by
  cases r with
  | op o v x => exact imm_cons imm_str (imm_cons (wspD_imm _) (imm_cons (pairD_imm _) imm_nil))
  | say x => exact imm_cons imm_str (imm_cons (pairD_imm _) imm_nil)
  | test a b => exact imm_cons imm_str (imm_cons (pairD_imm _) (imm_cons (pairD_imm _) imm_nil))
  | stop => exact imm_cons imm_str imm_nil
theorem ok_cell_of {f : Addr} {fd : FuncData} (F : L2.Fun K "cell_of" "cell_of" s_cell_of f fd) (h1 : mg "tuple" = none) (h4 : mg "zip" = none) (S : KD K w mg "SHAPES" shapes) : FnOk P w K mg base CX0 1 f fd p_cell_of (spD K 3 preCellOf) := by
  refine okD (N := n_cell_of) [false, false, false] F sc_cell_of rfl (by decide) ?_ ?_
  · rintro ds Φ _ ⟨r, rs, ws, rfl, _⟩
    exact imm_at0 (imm_cons r.imm (imm_cons (imm_fz (imm_map pairD_imm)) (imm_cons (imm_fz (imm_map wspD_imm)) imm_nil)))
  · rintro X f ds Φ B hF J hr hp _ ⟨r, rs, ws, rfl, ok, k⟩
    walk_at "h:cell_of"
    have ia : ∀ x ∈ r.args.map D.int, Imm x := imm_map fun _ => imm_int
    have lk : (shapes.lookup r.nm).isSome = true := by rw [r.look]; rfl
    have lk2 := r.look
    have hl : (whatL rs ws r).length = r.args.length + 1 := by cases r <;> rfl
    have h3 : r.args.length ≤ 2 := by cases r <;> simp [Row.args]
    have e2 : r.sh.length ≤ sizeLine := by rw [r.shl, sizeLine_eq]; omega
    unfold Row.d
    (focus (allgen_close2_more; cell_call; refine de_list ?_; k_ownIn; k_upd; k_caughtNB; refine de_int ?_; (refine GetS.seq (by rfl) (by rfl) (by exact atI_zero) (by (((with_reducible (exact imm_str)); done))) ?_); refine da_nil ?_; ((with_reducible refine' ex_takes ?exa ?_); (case exa => ((apply Takes.cons Take.v; exact Takes.nil)))); k_clsL; kaf_suf; allgen_close2_more))
    refine ds_for (by assumption) (di_zip (by assumption) (by assumption) (by walk_at "nm") (by assumption) ?_)
    (focus (k_ownIn; refine de_ixKD (by with_reducible assumption) (by with_reducible assumption) (by (with_reducible assumption)) (by with_reducible assumption) ?_; k_upd; k_caughtNB; refine de_int ?_; (refine GetS.seq (by rfl) (by rfl) (by exact atI_zero) (by (((with_reducible (exact imm_str)); done))) ?_); ((with_reducible refine' ex_look ?exa ?_); (case exa => assumption)); k_ownIn; refine de_slice ?_; k_caughtNB; refine do_some ?_; refine de_int ?_; (with_reducible refine ex_int ?_); refine do_none ?_; (refine SlS.tup (by rfl) (by (((with_reducible (refine imm_cons ?_ ?_; exact imm_str; assumption)); done))) ?_); refine da_nil ?_; refine ⟨_, _, rfl, ?_⟩; refine SeqS.str ?_; (refine SeqS.seq (by rfl) (by rfl) (by (((with_reducible (refine imm_cut ?_; refine imm_cons ?_ ?_; exact imm_str; assumption)); done))) ?_)))
    rw [cutA_tail]
    refine ⟨rfl, fun i δ => ∃ x4 x5, δ = [some r.d, some (.fz (rs.map pairD)), some (.fz (ws.map wspD)), some (.lst ((whatL rs ws r).take (i + 1))), x4, x5], ⟨none, none, by cases r <;> rfl⟩, ?_, ?_⟩
    · rintro i d δ2 hd ⟨x4, x5, rfl⟩
      obtain ⟨a, b, ha, hb, rfl⟩ := ziD_get hd
      obtain ⟨c, hc, rfl⟩ := signs_get ha
      obtain ⟨q, hq, rfl⟩ := map_get hb
      refine ⟨[4, 5], ?_⟩
      have eg := whatL_get (rs := rs) (ws := ws) hc hq
      have hsl : ((whatL rs ws r).take (i + 1)).length < sizeLine := by rw [List.length_take, sizeLine_eq]; omega
      rcases Row.at ok hc hq with ⟨rfl, h3, h4⟩ | ⟨rfl, h3, h4⟩
      · have at1 := homeAt_get (ws := ws) ⟨h3, h4⟩
        rw [if_pos rfl] at eg
        (focus (refine dg_tup (by with_reducible assumption) ?_; refine dgs_name ?_; fold_lay; refine dgs_name ?_; fold_lay; refine dgs_nil ?_; allgen_close2_more; refine ds_expr ?_; refine de_appendQ ?_; bits_by_make; refine And.intro (show IsLst _ _ from ⟨_, (by rfl)⟩) ?_; k_ownIn; refine de_if ?_; refine dt_eqQ (by with_reducible assumption) ?_; (refine de_name (by with_reducible assumption) (by with_reducible assumption) (by (with_reducible exact Nm.vis (k := .local) (by assumption) rfl)) (by rfl) (by (((with_reducible (exact imm_str)); done))) ?_); refine de_str ?_; refine EqQ.l (L2s.mk (by rfl) (by rfl) ?_); refine And.intro (show scal _ _ = true by rfl) ?_; refine br_true ?_; k_upd; bits_by_make; allgen_close_more))
        refine GetS.seq rfl rfl at1 (wspD_imm _) ?_
        (focus (refine da_nil ?_; (with_reducible refine ex_1v ?_); refine AppQ.mk (by rfl) (by (with_reducible assumption)) ?_; refine db_nil ?_))
        rw [whatL_step eg]
        exact ⟨_, _, rfl⟩
      · have at1 := spotAt_get (rs := rs) ⟨h3, h4⟩
        rw [if_neg (by decide)] at eg
        (focus (refine dg_tup (by with_reducible assumption) ?_; refine dgs_name ?_; fold_lay; refine dgs_name ?_; fold_lay; refine dgs_nil ?_; allgen_close2_more; refine ds_expr ?_; refine de_appendQ ?_; bits_by_make; refine And.intro (show IsLst _ _ from ⟨_, (by rfl)⟩) ?_; k_ownIn; refine de_if ?_; refine dt_eqQ (by with_reducible assumption) ?_; (refine de_name (by with_reducible assumption) (by with_reducible assumption) (by (with_reducible exact Nm.vis (k := .local) (by assumption) rfl)) (by rfl) (by (((with_reducible (exact imm_str)); done))) ?_); refine de_str ?_; refine EqQ.l (L2s.mk (by rfl) (by rfl) ?_); refine And.intro (show scal _ _ = true by rfl) ?_; refine br_false ?_; k_upd; bits_by_make; allgen_close_more))
        refine GetS.seq rfl rfl at1 (pairD_imm _) ?_
        (focus (refine da_nil ?_; (with_reducible refine ex_1v ?_); refine AppQ.mk (by rfl) (by (with_reducible assumption)) ?_; refine db_nil ?_))
        rw [whatL_step eg]
        exact ⟨_, _, rfl⟩
    · rintro δ2 ⟨x4, x5, rfl⟩
      have el : (ziD (signs r.sh) (r.args.map D.int)).length = r.args.length := by cases r <;> rfl
      rw [el, ← hl, List.take_length]
      have im := whatL_imm rs ws r
      (focus (allgen_close2_more; refine ds_ret ?_; refine de_tuplec (by with_reducible assumption) (by with_reducible assumption) (by (with_reducible assumption)) (by with_reducible assumption) ?_; k_ownIn; bits_by_make; refine da_nil ?_; (refine SeqC.mk (by rfl) (by rfl) (by (((with_reducible (assumption)); done))) ?_); kaf_suf; refine ⟨_, (by rfl), ?_⟩))
      exact k
end
local macro_rules | `(tactic| walk_at "h:image") => `(tactic| (have : Sl n_image 0 "program" := rfl; have : Sl n_image 1 "laying" := rfl; have : Sl n_image 2 "rows" := rfl; have : Sl n_image 3 "worths" := rfl; have : Sl n_image 4 "many" := rfl; have : Sl n_image 5 "found" := rfl; have : Sl n_image 6 "home" := rfl; have : Sl n_image 7 "worth" := rfl; have : Sl n_image 8 "spot" := rfl; have : Sl n_image 9 "row" := rfl; have : Nm (defScope s_image) "program" .local := rfl; have : Nm (defScope s_image) "laying" .local := rfl; have : Nm (defScope s_image) "rows" .cell := rfl; have : Nm (defScope s_image) "worths" .cell := rfl; have : Nm (defScope s_image) "many" .local := rfl; have : Nm (defScope s_image) "found" .local := rfl; have : Nm (defScope s_image) "home" .local := rfl; have : Nm (defScope s_image) "worth" .cell := rfl; have : Nm (defScope s_image) "need_program" .globalImplicit := rfl; have : Nm (defScope s_image) "need_laying" .globalImplicit := rfl; have : Nm (defScope s_image) "spots" .globalImplicit := rfl; have : Nm (defScope s_image) "zip" .globalImplicit := rfl; have : Nm (defScope s_image) "sorted" .globalImplicit := rfl; have : PlN "program" := pl_program; have : PlN "laying" := pl_laying; have : PlN "rows" := pl_rows; have : PlN "worths" := pl_worths; have : PlN "many" := pl_many; have : PlN "found" := pl_found; have : PlN "home" := pl_home; have : PlN "worth" := pl_worth; have : PlN "spot" := pl_spot; have : PlN "row" := pl_row; have : PlN "need_program" := pl_need_program; have : PlN "need_laying" := pl_need_laying; have : PlN "spots" := pl_spots; have : PlN "zip" := pl_zip; have : PlN "sorted" := pl_sorted; (show DB _ _ [some _, some _, none, none, none, none, none, none, none, none] (defBody s_image) _)))
section
variable {P : Program} {w : World} {K : PySem.W.Frag} {mg : Str → Option Value} {base : Heap}
theorem ok_image {f c PI C : Addr} {fd : FuncData} (F : FunC K "image" "image" s_image f fd c) (TB : LamX.TabB base mg c PI) (h1 : mg "zip" = none) (h2 : mg "sorted" = none) (G1 : GFn P w K mg base 3 "need_program" 1 preNeedOk) (G2 : GFn P w K mg base 2 "need_laying" 2 preNeedLay) (G3 : GFn P w K mg base 1 "spots" 2 preSpots) (G4 : GFn P w K mg base 1 "cell_of" 3 preCellOf) : FnOk P w K mg base CX0 5 f fd p_image (spT K [(PI, lamQ "image")] 2 preImage) := by
  refine okT (N := n_image) [false, false] [(PI, lamQ "image")] F sc_image rfl (by decide) ?_ ?_
  · rintro ds Φ _ ⟨p, l, rfl, _⟩
    exact imm_at0 (imm_cons p.imm (imm_cons l.imm imm_nil))
  · rintro X f ds Φ B hF J hr hcode hq htb hp _ ⟨p, l, rfl, okp, ok, k⟩
    walk_at "h:image"
    have ia : ∀ x ∈ p.ws.map D.int, Imm x := imm_map fun _ => imm_int
    have ib : ∀ x ∈ p.rows.map Row.d, Imm x := rows_imm
    have ip : ∀ x ∈ l.pl.map D.int, Imm x := imm_map fun _ => imm_int
    have ih : ∀ x ∈ l.hm.map homeD, Imm x := imm_map homeD_imm
    have ipp := p.imm
    have ill := l.imm
    have rl := okp.rl
    have wl := okp.wl
    have w2 := ok.w
    (focus (allgen_close2_more; refine ds_expr ?_; got_up; k_ownIn; fold_depth; refine da_nil ?_; ((with_reducible refine' ex_call ?exa ?exb ?exc ?_); (case exa => (rfl)); (case exb => rfl); (case exc => exact List.nodup_nil)); refine ⟨_, (by rfl), ?_⟩; k_offL; allgen_close2_more; refine ds_expr ?_; got_up; k_ownIn; fold_depth; k_ownIn; fold_depth; refine da_nil ?_; ((with_reducible refine' ex_call ?exa ?exb ?exc ?_); (case exa => (rfl)); (case exb => rfl); (case exc => exact List.nodup_nil)); refine ⟨_, _, rfl, (by with_reducible assumption), ?_⟩; k_offL; allgen_close2_more; refine ds_asgW ?_; got_up; k_ownIn; fold_depth; k_ownIn; fold_depth; refine da_nil ?_; ((with_reducible refine' ex_call ?exa ?exb ?exc ?_); (case exa => (rfl)); (case exb => rfl); (case exc => exact List.nodup_nil)); refine ⟨_, _, rfl, (by with_reducible assumption), ?_⟩; k_offL; kaf_suf; refine dgw_tup (by with_reducible assumption) ?_; refine dgsw_cons ?_; refine dgw_name (by with_reducible assumption) (by with_reducible assumption) (by (exact Nm.stoC (by with_reducible assumption) (by assumption))) (by (exact unp_of (by with_reducible assumption) (by rfl))) ?_; refine dgsw_cons ?_; refine dgw_name (by with_reducible assumption) (by with_reducible assumption) (by (exact Nm.stoC (by with_reducible assumption) (by assumption))) (by (exact unp_of (by with_reducible assumption) (by rfl))) ?_; refine dgsw_cons ?_; refine dgw_name (by with_reducible assumption) (by with_reducible assumption) (by (exact Nm.sto (by with_reducible assumption))) (by (exact unp_of (by with_reducible assumption) (by rfl))) ?_; refine dgsw_nil ?_; allgen_close2_more))
    have ir : ∀ x ∈ l.rsp.map pairD, Imm x := imm_map pairD_imm
    have iw : ∀ x ∈ l.wsp.map wspD, Imm x := imm_map wspD_imm
    have irf := imm_fz ir
    have iwf := imm_fz iw
    refine ds_frz0 (i := 2) rfl ir ?_
    refine ds_frz0 (i := 3) rfl iw ?_
    refine ds_setLcG (own := [("spot", 8), ("row", 9)]) (by assumption) (by walk_at "nm") (by walk_at "nm") (by walk_at "pin") (by walk_at "swap") (by walk_at "blk") (by walk_at "pins") (di_zip (by assumption) (by assumption) (by walk_at "nm") (by assumption) ?_)
    (focus (k_ownIn; (refine de_name (by with_reducible assumption) (by with_reducible assumption) (by (with_reducible exact Nm.vis (k := .cell) (by assumption) rfl)) (by rfl) (by (((with_reducible (assumption)); done))) ?_); k_ownIn; k_upd; fold_depth; refine de_int ?_; (refine GetS.seq (by rfl) (by rfl) (by rfl) (by (((with_reducible (refine imm_tup ?_; assumption)); done))) ?_); refine da_nil ?_; refine ⟨_, _, rfl, ?_⟩; (refine SeqS.seq (by rfl) (by rfl) (by (((with_reducible (assumption)); done))) ?_); (refine SeqS.seq (by rfl) (by rfl) (by (((with_reducible (assumption)); done))) ?_)))
    have ez : ziD (l.rsp.map pairD) (p.rows.map Row.d) = (l.rsp.zip p.rows).map fun c => D.tup [pairD c.1, c.2.d] := by
      unfold ziD
      rw [List.zip_map, List.map_map]
      rfl
    rw [ez]
    have zl : (l.rsp.zip p.rows).length ≤ 40 := by rw [List.length_zip]; omega
    refine lc_mapB (l.rsp.zip p.rows) (fun c => D.tup [pairD c.1, c.2.d]) (fun c => cellD (c.1, whatD l.rsp l.wsp c.2)) rfl rfl rfl (by rw [sizeLine_eq]; omega) (fun i c hc => ?_) ?_
    · obtain ⟨hc1, hc2⟩ := List.of_mem_zip (List.mem_of_getElem? hc)
      have ic := pairD_imm c.1
      have ic2 := c.2.imm
      have rok : c.2.Ok l.wsp.length l.rsp.length := by
        rw [l.rsp_len, l.wsp_len, ok.pl, ok.hl]
        exact okp.rv c.2 hc2
      unfold Turn1
      (focus (k_caughtB; refine dg_tup (by with_reducible assumption) ?_; refine dgs_name ?_; k_intsEnd; refine dgs_name ?_; k_intsEnd; refine dgs_nil ?_; k_caughtB; refine dts_nil ?_; refine br_true ?_; k_caughtB; refine de_tup ?_; k_ownIn; (refine de_name (by with_reducible assumption) (by with_reducible assumption) (by (exact Nm.vis (k := .local) (by exact rfl) rfl)) (by rfl) (by (((with_reducible (assumption)); done))) ?_); k_ownIn; (refine de_call (by with_reducible assumption) (by with_reducible assumption) (by with_reducible assumption) ?hroom (by (exact rfl)) ?_; (case hroom => (exact Room.mono (by assumption) (by decide)))); k_ownIn; (refine de_name (by with_reducible assumption) (by with_reducible assumption) (by (exact Nm.vis (k := .local) (by exact rfl) rfl)) (by rfl) (by (((with_reducible (assumption)); done))) ?_); k_ownIn; (refine de_name (by with_reducible assumption) (by with_reducible assumption) (by (exact Nm.vis (k := .cell) (by exact rfl) rfl)) (by rfl) (by (((with_reducible (assumption)); done))) ?_); k_ownIn; (refine de_name (by with_reducible assumption) (by with_reducible assumption) (by (exact Nm.vis (k := .cell) (by exact rfl) rfl)) (by rfl) (by (((with_reducible (assumption)); done))) ?_); refine da_nil ?_; ((with_reducible refine' ex_call ?exa ?exb ?exc ?_); (case exa => (rfl)); (case exb => rfl); (case exc => exact List.nodup_nil))))
      refine ⟨c.2, l.rsp, l.wsp, rfl, rok, ?_⟩
      (focus (refine da_nil ?_; kaf_pre; k_clsL; kaf_suf))
      exact ⟨rfl, rfl⟩
    · have ec : (l.rsp.zip p.rows).map (fun c => cellD (c.1, whatD l.rsp l.wsp c.2)) = (rowCells l.rsp l.wsp p.rows).map cellD := by unfold rowCells; rw [List.map_map]; rfl
      rw [ec]
      (focus (kaf_suf; allgen_close2_more))
      refine ds_for (by assumption) (di_zip (by assumption) (by assumption) (by walk_at "nm") (by assumption) ?_)
      (focus (k_ownIn; (refine de_name (by with_reducible assumption) (by with_reducible assumption) (by (with_reducible exact Nm.vis (k := .cell) (by assumption) rfl)) (by rfl) (by (((with_reducible (assumption)); done))) ?_); k_ownIn; k_upd; fold_depth; refine de_int ?_; (refine GetS.seq (by rfl) (by rfl) (by rfl) (by (((with_reducible (refine imm_tup ?_; assumption)); done))) ?_); refine da_nil ?_; refine ⟨_, _, rfl, ?_⟩; (refine SeqS.seq (by rfl) (by rfl) (by (((with_reducible (assumption)); done))) ?_); (refine SeqS.seq (by rfl) (by rfl) (by (((with_reducible (assumption)); done))) ?_)))
      have ez2 : ziD (l.wsp.map wspD) (p.ws.map D.int) = (l.wsp.zip p.ws).map fun c => D.tup [wspD c.1, .int c.2] := by
        unfold ziD
        rw [List.zip_map, List.map_map]
        rfl
      rw [ez2]
      refine ⟨rfl, fun i δ => ∃ x6 x7, δ = [some p.d, some l.d, some (.fz (l.rsp.map pairD)), some (.fz (l.wsp.map wspD)), some (.int l.top), some (.lst ((rowCells l.rsp l.wsp p.rows ++ ((l.wsp.zip p.ws).take i).flatMap fun c => c.1.map fun s => (s, worthD c.2)).map cellD)), x6, x7, none, none], ⟨none, none, by simp⟩, ?_, ?_⟩
      · rintro i d δ2 hd ⟨x6, x7, rfl⟩
        obtain ⟨c, hc, rfl⟩ := map_get hd
        obtain ⟨hc1, hc2⟩ := List.of_mem_zip (List.mem_of_getElem? hc)
        have icw := wspD_imm c.1
        have ics : ∀ x ∈ c.1.map pairD, Imm x := imm_map pairD_imm
        refine ⟨[6, 7], ?_⟩
        (focus (refine dg_tup (by with_reducible assumption) ?_; refine dgs_name ?_; fold_lay; refine dgs_name ?_; refine dg_name (by with_reducible assumption) (by with_reducible assumption) (by (exact Nm.stoC (by with_reducible assumption) (by assumption))) (by (exact unp_of (by with_reducible assumption) (by rfl))) ?_; refine dgs_nil ?_; allgen_close2_more; refine ds_expr ?_; refine de_extend ?_; bits_by_make; refine And.intro (show IsLst _ _ from ⟨_, (by rfl)⟩) ?_; k_ownIn))
        have lh : c.1.length ≤ 3 := l.wsp_each ok hc1
        refine de_lcG (own := [("spot", 8)]) (by assumption) (by walk_at "blk") (by walk_at "pins") (di_seq ?_)
        (focus (fold_depth; (refine SeqS.seq (by rfl) (by rfl) (by (((with_reducible (assumption)); done))) ?_)))
        refine lc_mapB c.1 pairD (fun s => cellD (s, worthD c.2)) rfl rfl rfl (by rw [sizeLine_eq]; omega) (fun j s hs => ?_) ?_
        · have isp := pairD_imm s
          unfold Turn1
          (focus (k_caughtB; k_intsEnd; k_caughtB; refine dts_nil ?_; refine br_true ?_; k_caughtB; refine de_tup ?_; k_ownIn; (refine de_name (by with_reducible assumption) (by with_reducible assumption) (by (exact Nm.vis (k := .local) (by exact rfl) rfl)) (by rfl) (by (((with_reducible (assumption)); done))) ?_); k_ownIn; refine de_tup ?_; k_ownIn; refine de_str ?_; k_ownIn; (refine de_name (by with_reducible assumption) (by with_reducible assumption) (by (exact Nm.vis (k := .cell) (by exact rfl) rfl)) (by rfl) (by (((with_reducible (exact imm_int)); done))) ?_); refine da_nil ?_; kaf_pre; k_clsL; refine da_nil ?_; kaf_pre; k_clsL; kaf_suf))
          exact ⟨rfl, rfl⟩
        · have lz : ((l.wsp.zip p.ws).take i).length ≤ 8 := by rw [List.length_take, List.length_zip]; omega
          have lc := worthCells_len (zs := (l.wsp.zip p.ws).take i) fun c m => l.wsp_each ok (List.of_mem_zip (a := c.1) (b := c.2) (List.mem_of_mem_take m)).1
          have lr : (rowCells l.rsp l.wsp p.rows).length ≤ 40 := by unfold rowCells; rw [List.length_map]; exact zl
          (focus (refine da_nil ?_; (with_reducible refine ex_one ?_)))
          refine ExtS.s rfl rfl (imm_map fun s => cellD_imm (c := (s, worthD c.2)) (worthD_imm _)) (by rw [List.length_map, List.length_map, List.length_append, sizeLine_eq]; omega) ?_
          (focus (refine db_nil ?_))
          refine ⟨some (wspD c.1), some (.int c.2), ?_⟩
          rw [List.take_add_one, hc]
          simp [List.flatMap_append, List.map_map]
          try rfl
      · rintro δ2 ⟨x6, x7, rfl⟩
        have e0 : (l.wsp.zip p.ws).take ((l.wsp.zip p.ws).map fun c => D.tup [wspD c.1, .int c.2]).length = l.wsp.zip p.ws := by rw [List.length_map]; exact List.take_length
        rw [e0]
        show DB X f [some p.d, some l.d, some (.fz (l.rsp.map pairD)), some (.fz (l.wsp.map wspD)), some (.int l.top), some (.lst ((cellsOf p l).map cellD)), x6, x7, none, none] _ _
        have at0 := spotAt_get (rs := l.rsp) (x := 0) ⟨by omega, by rw [l.rsp_len, ok.pl]; have := okp.r0; omega⟩
        (focus (allgen_close2_more; refine ds_ret ?_; refine de_tup ?_; k_ownIn; k_upd; fold_depth; refine de_int ?_; (refine GetS.seq (by rfl) (by rfl) (by rfl) (by (((with_reducible (exact imm_int)); done))) ?_); k_ownIn; k_upd; (refine de_name (by with_reducible assumption) (by with_reducible assumption) (by (with_reducible exact Nm.vis (k := .cell) (by assumption) rfl)) (by rfl) (by (((with_reducible (assumption)); done))) ?_); refine de_int ?_))
        refine GetS.seq rfl rfl at0 (pairD_imm _) ?_
        (focus (k_ownIn))
        refine de_sortKey (by assumption) (by assumption) (by walk_at "room") (by walk_at "nm") (by assumption) TB hcode (by rw [htb, hq]; exact List.mem_singleton.mpr rfl) (fun q m _ => by rw [htb] at m; rw [List.mem_singleton.mp m, hq]) (lamFree_by rfl) rfl ⟨⟨_, _, _, _, rfl⟩, rfl, rfl, rfl, by decide, rfl, fun _ _ _ _ _ _ _ => rfl, by decide⟩ ?_
        (focus (bits_by_make))
        refine ⟨_, keyOfD, rfl, fun x m => ?_, ?_⟩
        · obtain ⟨c, hc, rfl⟩ := List.mem_map.mp m
          exact ⟨cellD_imm (cellsOf_imm c hc), _, _, .inl rfl, .inl rfl⟩
        · rw [cells_sorted]
          (focus (refine da_nil ?_; k_subL; k_clsL; kaf_suf; refine ⟨_, (by rfl), ?_⟩))
          exact k
end
local macro_rules | `(tactic| walk_at "h:tracks") => `(tactic| (have : Sl n_tracks 0 "program" := rfl; have : Sl n_tracks 1 "laying" := rfl; have : Nm (defScope s_tracks) "program" .local := rfl; have : Nm (defScope s_tracks) "laying" .local := rfl; have : Nm (defScope s_tracks) "need_program" .globalImplicit := rfl; have : Nm (defScope s_tracks) "need_laying" .globalImplicit := rfl; have : Nm (defScope s_tracks) "spots" .globalImplicit := rfl; have : PlN "program" := pl_program; have : PlN "laying" := pl_laying; have : PlN "need_program" := pl_need_program; have : PlN "need_laying" := pl_need_laying; have : PlN "spots" := pl_spots; (show DB _ _ [some _, some _] (defBody s_tracks) _)))
section
variable {P : Program} {w : World} {K : PySem.W.Frag} {mg : Str → Option Value} {base : Heap}
theorem ok_tracks {f : Addr} {fd : FuncData} (F : L2.Fun K "tracks" "tracks" s_tracks f fd) (G1 : GFn P w K mg base 3 "need_program" 1 preNeedOk) (G2 : GFn P w K mg base 2 "need_laying" 2 preNeedLay) (G3 : GFn P w K mg base 1 "spots" 2 preSpots) : FnOk P w K mg base CX0 4 f fd p_tracks (spD K 2 preTracks) := by
  refine okD (N := n_tracks) [false, false] F sc_tracks rfl (by decide) ?_ ?_
  · rintro ds Φ _ ⟨p, l, rfl, _⟩
    exact imm_at0 (imm_cons p.imm (imm_cons l.imm imm_nil))
  · rintro X f ds Φ B hF J hr hp _ ⟨p, l, rfl, okp, okl, k⟩
    walk_at "h:tracks"
    have ipp := p.imm
    have ill := l.imm
    (focus (allgen_close2_more; refine ds_expr ?_; k_memK; k_ownIn; fold_depth; refine da_nil ?_; ((with_reducible refine' ex_call ?exa ?exb ?exc ?_); (case exa => (rfl)); (case exb => rfl); (case exc => exact List.nodup_nil)); refine ⟨_, (by rfl), ?_⟩; k_offL; allgen_close2_more; refine ds_expr ?_; got_up; k_ownIn; fold_depth; k_ownIn; fold_depth; refine da_nil ?_; ((with_reducible refine' ex_call ?exa ?exb ?exc ?_); (case exa => (rfl)); (case exb => rfl); (case exc => exact List.nodup_nil)); refine ⟨_, _, rfl, (by with_reducible assumption), ?_⟩; k_offL; allgen_close2_more; refine ds_ret ?_; k_upd; got_up; k_ownIn; fold_depth; k_ownIn; fold_depth; refine da_nil ?_; ((with_reducible refine' ex_call ?exa ?exb ?exc ?_); (case exa => (rfl)); (case exb => rfl); (case exc => exact List.nodup_nil)); refine ⟨_, _, rfl, (by with_reducible assumption), ?_⟩; k_offL; refine de_int ?_; (refine GetS.seq (by rfl) (by rfl) (by rfl) (by (((with_reducible (exact imm_int)); done))) ?_); kaf_suf; refine ⟨_, (by rfl), ?_⟩))
    exact k
end
local macro_rules | `(tactic| walk_at "h:l_dice") => `(tactic| (have : Sl n_l_dice 0 "_law_script" := rfl; have : Sl n_l_dice 1 "_law_mixed_here" := rfl; have : Sl n_l_dice 2 "_law_cell" := rfl; have : Nm (defScope s_l_dice) "_law_script" .local := rfl; have : Nm (defScope s_l_dice) "_law_mixed_here" .local := rfl; have : Nm (defScope s_l_dice) "_law_cell" .local := rfl; have : Nm (defScope s_l_dice) "int" .globalImplicit := rfl; have : Nm (defScope s_l_dice) "len" .globalImplicit := rfl; have : PlN "_law_script" := pl__law_script; have : PlN "_law_mixed_here" := pl__law_mixed_here; have : PlN "_law_cell" := pl__law_cell; have : PlN "int" := pl_int; have : PlN "len" := pl_len; (show DB _ _ [some _, none, none] (defBody s_l_dice) _)))
section
variable {P : Program} {w : World} {K : PySem.W.Frag} {mg : Str → Option Value} {base : Heap}
theorem ok_dice {f : Addr} {fd : FuncData} (F : L2.Fun K "_law_dice" "_law_dice" s_l_dice f fd) (h3 : mg "len" = none) (h4 : mg "int" = none) : FnOk P w K mg base CX0 1 f fd p_l_dice (spD K 1 preDice) := by
  refine okD (N := n_l_dice) [false] F sc_l_dice rfl (by decide) ?_ ?_
  · rintro ds Φ _ ⟨g, rfl, _⟩
    exact imm_at0 (imm_cons imm_fzi imm_nil)
  · rintro X f ds Φ B hF J hr hp _ ⟨sc, rfl, hl, k⟩
    walk_at "h:l_dice"
    (focus (allgen_close2_more; cell_call; refine de_int ?_; kaf_suf; allgen_close2_more))
    refine ds_for (by assumption) (di_seq ?_)
    (focus ((refine de_name (by with_reducible assumption) (by with_reducible assumption) (by (with_reducible exact Nm.vis (k := .local) (by assumption) rfl)) (by rfl) (by (((with_reducible (exact imm_fzi)); done))) ?_); (refine SeqS.seq (by rfl) (by rfl) (by (((with_reducible (exact imm_map fun _ => imm_int)); done))) ?_)))
    refine ⟨rfl, fun i δ => ∃ m c, 0 ≤ m ∧ m < 2147483647 ∧ δ = [some (.fz (sc.map .int)), some (.int m), c], ⟨0, _, by decide, by decide, rfl⟩, ?_, ?_⟩
    · rintro i d δ2 hd ⟨m, c, m0, m1, rfl⟩
      obtain ⟨q, hq, rfl⟩ := map_get hd
      refine ⟨[2], ?_⟩
      (focus (fold_lay; allgen_close2_more; cell_call; refine de_mod ?_; refine de_add ?_; refine de_add ?_; refine de_mulG ?_; allgen_close_more; refine de_int ?_; refine MulS.int (by exact Or.inr ⟨by decide, by decide⟩) ?_; refine de_mulG ?_; refine de_mod ?_; allgen_close_more; refine de_int ?_; refine I2.mk ?_; kba_ints; refine de_int ?_; refine MulS.int (by exact Or.inr ⟨by decide, by decide⟩) ?_; refine AddS.int ?_; refine de_int ?_; refine AddS.int ?_; refine de_int ?_; refine I2.mk ?_; kba_ints; kaf_suf; refine db_nil ?_))
      exact ⟨_, _, Int.emod_nonneg _ (by decide), Int.emod_lt_of_pos _ (by decide), rfl⟩
    · rintro δ2 ⟨m, c, m0, m1, rfl⟩
      (focus (allgen_close2_more; refine ds_ret ?_; refine de_list ?_; k_ownIn; (refine de_name (by with_reducible assumption) (by with_reducible assumption) (by (with_reducible exact Nm.vis (k := .local) (by assumption) rfl)) (by rfl) (by (((with_reducible (exact imm_fzi)); done))) ?_); k_ownIn; refine de_int ?_; k_ownIn; refine de_mulG ?_; allgen_close_more; refine de_intc (by with_reducible assumption) (by with_reducible assumption) (by (with_reducible assumption)) (by with_reducible assumption) ?_; k_ownIn; refine de_gt ?_; k_caughtN0; k_ownIn; (refine de_name (by with_reducible assumption) (by with_reducible assumption) (by (with_reducible exact Nm.vis (k := .local) (by assumption) rfl)) (by rfl) (by (((with_reducible (exact imm_fzi)); done))) ?_); refine da_nil ?_; refine LenQ.s (LenS.seq (by rfl) (by rfl) ?_); refine de_int ?_; refine I2.mk ?_; refine da_nil ?_; refine IntS.bl ?_; (refine MulS.int (by ((left; constructor <;> omega))) ?_); k_ownIn; refine de_int ?_; refine da_nil ?_; ((with_reducible refine' ex_takes ?exa ?_); (case exa => ((apply Takes.cons Take.v; apply Takes.cons Take.v; apply Takes.cons Take.v; apply Takes.cons Take.v; exact Takes.nil)))); k_clsL; kaf_suf; refine ⟨_, (by rfl), ?_⟩))
      refine k ⟨sc, 0, _, 0⟩ ⟨Int.le_refl _, ?_, Int.le_refl _, hl⟩
      show 0 ≤ m * _
      split
      · omega
      · omega
end
local macro_rules | `(tactic| walk_at "h:l_next") => `(tactic| (have : Sl n_l_next 0 "_law_dice_here" := rfl; have : Sl n_l_next 1 "_law_many" := rfl; have : Sl n_l_next 2 "_law_found" := rfl; have : Sl n_l_next 3 "_law_cell" := rfl; have : Nm (defScope s_l_next) "_law_dice_here" .local := rfl; have : Nm (defScope s_l_next) "_law_many" .local := rfl; have : Nm (defScope s_l_next) "_law_found" .local := rfl; have : Nm (defScope s_l_next) "_law_cell" .local := rfl; have : Nm (defScope s_l_next) "len" .globalImplicit := rfl; have : PlN "_law_dice_here" := pl__law_dice_here; have : PlN "_law_many" := pl__law_many; have : PlN "_law_found" := pl__law_found; have : PlN "_law_cell" := pl__law_cell; have : PlN "len" := pl_len; (show DB _ _ [some _, some _, none, none] (defBody s_l_next) _)))
section
variable {P : Program} {w : World} {K : PySem.W.Frag} {mg : Str → Option Value} {base : Heap}
theorem ok_next {f : Addr} {fd : FuncData} (F : L2.Fun K "_law_next" "_law_next" s_l_next f fd) (hlen : mg "len" = none) : FnOk P w K mg base CX0 1 f fd p_l_next (spD K 2 preNext) := by
  refine okD (N := n_l_next) [true, false] F sc_l_next rfl (by decide) ?_ ?_
  · rintro ds Φ _ ⟨g, n, rfl, _⟩
    exact imm_at1 (imm_cons imm_int imm_nil)
  · rintro X f ds Φ B hF J hr hp _ ⟨⟨sc, gi, gm, gr⟩, n, rfl, n0, n1, ok, k⟩
    walk_at "h:l_next"
    have h63 := ok.l
    unfold Dice.d
    (focus (allgen_close2_more; refine ds_if ?_; refine dt_gt ?_; k_upd; bits_by_make; refine de_int ?_; (refine GetS.seq (by rfl) (by rfl) (by rfl) (by (((with_reducible (exact imm_int)); done))) ?_); refine de_int ?_; refine I2.mk ?_; refine br_dec (fun _ => ?_) (fun _ => ?_); allgen_close2_more; cell_call; refine de_mod ?_; k_upd; bits_by_make; refine de_int ?_; (refine GetS.seq (by rfl) (by rfl) (by rfl) (by (((with_reducible (exact imm_int)); done))) ?_); allgen_close_more; refine I2.mk ?_; k_offL; kaf_suf; allgen_close2_more; refine ds_sto (by with_reducible assumption) ?_; refine de_fdiv ?_; k_upd; bits_by_make; refine de_int ?_; (refine GetS.seq (by rfl) (by rfl) (by rfl) (by (((with_reducible (exact imm_int)); done))) ?_); allgen_close_more; refine I2.mk ?_; kas_types; kaf_suf; bits_by_make; refine de_int ?_; refine StoS.lst (by rfl) (by rfl) ?_; allgen_close2_more; refine ds_ret ?_; allgen_close_more; kaf_suf; refine ⟨_, (by rfl), ?_⟩; (rotate_left); refine db_nil ?_; allgen_close2_more; refine ds_sto (by with_reducible assumption) ?_; refine de_add ?_; k_upd; bits_by_make; refine de_int ?_; (refine GetS.seq (by rfl) (by rfl) (by rfl) (by (((with_reducible (exact imm_int)); done))) ?_); refine de_int ?_; refine AddS.int ?_; kaf_suf; bits_by_make; refine de_int ?_; refine StoS.lst (by rfl) (by rfl) ?_; allgen_close2_more; refine ds_if ?_; refine dt_le ?_; k_upd; bits_by_make; refine de_int ?_; (refine GetS.seq (by rfl) (by rfl) (by rfl) (by (((with_reducible (exact imm_int)); done))) ?_); k_caughtN0; k_ownIn; k_upd; bits_by_make; refine de_int ?_; (refine GetS.seq (by rfl) (by rfl) (by rfl) (by (((with_reducible (exact imm_fzi)); done))) ?_); refine da_nil ?_; refine LenQ.s (LenS.seq (by rfl) (by rfl) ?_); refine I2.mk ?_; refine br_dec (fun _ => ?_) (fun _ => ?_); allgen_close2_more; cell_call; k_upd; k_upd; bits_by_make; refine de_int ?_; (refine GetS.seq (by rfl) (by rfl) (by rfl) (by (((with_reducible (exact imm_fzi)); done))) ?_); refine de_sub ?_; k_upd; bits_by_make; refine de_int ?_; (refine GetS.seq (by rfl) (by rfl) (by rfl) (by (((with_reducible (exact imm_int)); done))) ?_); refine de_int ?_; refine I2.mk ?_; (rotate_left); refine db_nil ?_; allgen_close2_more; refine ds_sto (by with_reducible assumption) ?_; refine de_mod ?_; refine de_mulG ?_; k_upd; bits_by_make; refine de_int ?_; (refine GetS.seq (by rfl) (by rfl) (by rfl) (by (((with_reducible (exact imm_int)); done))) ?_); refine de_int ?_; refine MulS.int (by exact Or.inr ⟨by decide, by decide⟩) ?_; refine de_int ?_; refine I2.mk ?_; kba_ints; kaf_suf; bits_by_make; refine de_int ?_; refine StoS.lst (by rfl) (by rfl) ?_; allgen_close2_more; refine ds_ret ?_; refine de_mod ?_; refine de_fdiv ?_; k_upd; bits_by_make; refine de_int ?_; (refine GetS.seq (by rfl) (by rfl) (by rfl) (by (((with_reducible (exact imm_int)); done))) ?_); refine de_int ?_; refine I2.mk ?_; kas_types; allgen_close_more; refine I2.mk ?_; k_offL; kaf_suf; refine ⟨_, (by rfl), ?_⟩; (rotate_left)))
    · exact k _ ⟨sc, gi, gm, gr / n⟩ (Int.emod_nonneg _ (by omega)) (Int.emod_lt_of_pos _ n0) ⟨ok.i, ok.m, Int.ediv_nonneg ok.r (by omega), ok.l⟩
    · rename_i h1 h2
      have i0 := ok.i
      simp only [List.length_map] at h2
      obtain ⟨c, _, hc⟩ := atI_ints (l := sc) (i := gi + 1 - 1) (by have := ok.i; simp at this; omega) (by omega)
      refine GetS.seq rfl rfl hc imm_int ?_
      (focus (kaf_suf; allgen_close2_more; refine ds_sto (by with_reducible assumption) ?_; refine de_if ?_; refine dt_ge ?_; allgen_close_more; refine de_pow ?_; refine de_int ?_; refine de_int ?_; refine I2.mk ?_; refine And.intro ⟨by decide, by decide, by decide⟩ ?_; refine I2.mk ?_; refine br_dec (fun _ => ?_) (fun _ => ?_); refine de_fdiv ?_; allgen_close_more; allgen_close_more; refine I2.mk ?_; kas_types; kaf_suf; bits_by_make; refine de_int ?_; refine StoS.lst (by rfl) (by rfl) ?_; allgen_close2_more; refine ds_ret ?_; refine de_mod ?_; allgen_close_more; allgen_close_more; refine I2.mk ?_; k_offL; kaf_suf; refine ⟨_, (by rfl), ?_⟩; (rotate_left); refine de_int ?_; kaf_suf; bits_by_make; refine de_int ?_; refine StoS.lst (by rfl) (by rfl) ?_; allgen_close2_more; refine ds_ret ?_; refine de_mod ?_; allgen_close_more; allgen_close_more; refine I2.mk ?_; k_offL; kaf_suf; refine ⟨_, (by rfl), ?_⟩; (rotate_left)))
      · rename_i h3
        exact k _ ⟨sc, gi + 1, gm, c / n⟩ (Int.emod_nonneg _ (by omega)) (Int.emod_lt_of_pos _ n0) ⟨Int.add_nonneg i0 (by decide), ok.m, Int.ediv_nonneg (Int.le_trans (show (0 : Int) ≤ 10 ^ 18 by decide) h3) (by omega), ok.l⟩
      · exact k _ ⟨sc, gi + 1, gm, 0⟩ (Int.emod_nonneg _ (by omega)) (Int.emod_lt_of_pos _ n0) ⟨Int.add_nonneg i0 (by decide), ok.m, Int.le_refl _, ok.l⟩
    · exact k _ ⟨sc, gi + 1, gm * 48271 % 2147483647, gr⟩ (Int.emod_nonneg _ (by omega)) (Int.emod_lt_of_pos _ n0) ⟨by have := ok.i; simp at this ⊢; omega, Int.emod_nonneg _ (by decide), ok.r, ok.l⟩
end
local macro_rules | `(tactic| walk_at "h:l_like") => `(tactic| (have : Sl n_l_like 0 "_law_found" := rfl; have : Sl n_l_like 1 "_law_due" := rfl; have : Sl n_l_like 2 "_law_k" := rfl; have : Nm (defScope s_l_like) "_law_found" .local := rfl; have : Nm (defScope s_l_like) "_law_due" .local := rfl; have : Nm (defScope s_l_like) "_law_k" .local := rfl; have : Nm (defScope s_l_like) "isinstance" .globalImplicit := rfl; have : Nm (defScope s_l_like) "bool" .globalImplicit := rfl; have : Nm (defScope s_l_like) "str" .globalImplicit := rfl; have : Nm (defScope s_l_like) "int" .globalImplicit := rfl; have : Nm (defScope s_l_like) "tuple" .globalImplicit := rfl; have : Nm (defScope s_l_like) "list" .globalImplicit := rfl; have : Nm (defScope s_l_like) "len" .globalImplicit := rfl; have : Nm (defScope s_l_like) "range" .globalImplicit := rfl; have : Nm (defScope s_l_like) "_law_like" .globalImplicit := rfl; have : PlN "_law_found" := pl__law_found; have : PlN "_law_due" := pl__law_due; have : PlN "_law_k" := pl__law_k; have : PlN "isinstance" := pl_isinstance; have : PlN "bool" := pl_bool; have : PlN "str" := pl_str; have : PlN "int" := pl_int; have : PlN "tuple" := pl_tuple; have : PlN "list" := pl_list; have : PlN "len" := pl_len; have : PlN "range" := pl_range; have : PlN "_law_like" := pl__law_like; (show DB _ _ [some _, some _, none] (defBody s_l_like) _)))
section
variable {P : Program} {w : World} {K : PySem.W.Frag} {mg : Str → Option Value} {base : Heap}
theorem ok_like {f : Addr} {fd : FuncData} (F : L2.Fun K "_law_like" "_law_like" s_l_like f fd) (h1 : mg "len" = none) (h2 : mg "isinstance" = none) (h3 : mg "bool" = none) (h4 : mg "str" = none) (h5 : mg "int" = none) (h6 : mg "tuple" = none) (h7 : mg "list" = none) (h8 : mg "range" = none)
    (hm : mg "_law_like" = some (.ref f)) (hk : PySem.W.keepIn K (.ref f) = true) (hb : Binds K fd p_l_like []) : ∀ n, FnOk P w K mg base CX0 (n + 1) f fd p_l_like (spD K 2 (preLikeM n)) := by
  intro n
  induction n with
  | zero =>
    refine okD (N := n_l_like) [true, true] F sc_l_like rfl (by decide) ?_ ?_
    · rintro ds Φ _ ⟨d, rfl, h, _⟩
      intro i d hi; rcases i with _ | _ | i <;> simp at hi
    · rintro X f ds Φ B hF J hr hp _ ⟨d, rfl, h, k⟩
      walk_at "h:l_like"
      cases h <;> (walk_at "go"; simpa using k)
  | succ n ih =>
    have G : GFn P w K mg base (n + 1) "_law_like" 2 (preLikeM n) := ⟨⟨_, fd, p_l_like, hm, hk, hb, ih⟩⟩
    refine okD (N := n_l_like) [true, true] F sc_l_like rfl (by decide) ?_ ?_
    · rintro ds Φ _ ⟨d, rfl, h, _⟩
      intro i d hi; rcases i with _ | _ | i <;> simp at hi
    · rintro X f ds Φ B hF J hr hp _ ⟨d, rfl, h, k⟩
      walk_at "h:l_like"
      cases h with
      | @tup _ xs hl hx =>
        (focus (allgen_close2_more; refine ds_if ?_; refine dt_val ?_; refine de_isi (by with_reducible assumption) (by with_reducible assumption) (by (with_reducible assumption)) (by with_reducible assumption) ?_; k_ownIn; bits_by_make; k_ownIn; refine de_tyName (by with_reducible assumption) (by with_reducible assumption) (by (with_reducible assumption)) (by with_reducible assumption) (by (with_reducible exact _root_.PyProof.Rows.boot_bool)) ?_; refine da_nil ?_; refine IsiS.mk (by rfl) (by rfl) (by (with_reducible exact kb_tuple_bool)) ?_; (with_reducible refine ex_bl ?_); refine br_false ?_; refine db_nil ?_; allgen_close2_more; refine ds_if ?_; refine dt_val ?_; refine de_isi (by with_reducible assumption) (by with_reducible assumption) (by (with_reducible assumption)) (by with_reducible assumption) ?_; k_ownIn; bits_by_make; k_ownIn; refine de_tyName (by with_reducible assumption) (by with_reducible assumption) (by (with_reducible assumption)) (by with_reducible assumption) (by (with_reducible exact _root_.PyProof.Rows.boot_str)) ?_; refine da_nil ?_; refine IsiS.mk (by rfl) (by rfl) (by (with_reducible exact kb_tuple_str)) ?_; (with_reducible refine ex_bl ?_); refine br_false ?_; refine db_nil ?_; allgen_close2_more; refine ds_if ?_; refine dt_val ?_; refine de_isi (by with_reducible assumption) (by with_reducible assumption) (by (with_reducible assumption)) (by with_reducible assumption) ?_; k_ownIn; bits_by_make; k_ownIn; refine de_tyName (by with_reducible assumption) (by with_reducible assumption) (by (with_reducible assumption)) (by with_reducible assumption) (by (with_reducible exact _root_.PyProof.Rows.boot_int)) ?_; refine da_nil ?_; refine IsiS.mk (by rfl) (by rfl) (by (with_reducible exact kb_tuple_int)) ?_; (with_reducible refine ex_bl ?_); refine br_false ?_; refine db_nil ?_; allgen_close2_more; refine ds_if ?_; refine dt_is ?_; bits_by_make; refine de_non ?_; (refine IsN.no (by rfl) (by intro v h; cases h <;> (intro q; cases q)) (by intro v e q; cases q) ?_); refine br_false ?_; refine db_nil ?_; allgen_close2_more; refine ds_if ?_; refine dt_pw (dw_or ?_); refine dt_neQ (by with_reducible assumption) ?_; refine de_isi (by with_reducible assumption) (by with_reducible assumption) (by (with_reducible assumption)) (by with_reducible assumption) ?_; k_ownIn; bits_by_make; k_ownIn; refine de_tyName (by with_reducible assumption) (by with_reducible assumption) (by (with_reducible assumption)) (by with_reducible assumption) (by (with_reducible exact _root_.PyProof.Rows.boot_tuple)) ?_; refine da_nil ?_; refine IsiS.mk (by rfl) (by rfl) (by (with_reducible exact kb_tuple_tuple)) ?_; refine de_isi (by with_reducible assumption) (by with_reducible assumption) (by (with_reducible assumption)) (by with_reducible assumption) ?_; k_ownIn; bits_by_make; k_ownIn; refine de_tyName (by with_reducible assumption) (by with_reducible assumption) (by (with_reducible assumption)) (by with_reducible assumption) (by (with_reducible exact _root_.PyProof.Rows.boot_tuple)) ?_; refine da_nil ?_; refine IsiS.mk (by rfl) (by rfl) (by (with_reducible exact kb_tuple_tuple)) ?_; refine EqQ.l (L2s.mk (by rfl) (by rfl) ?_); refine And.intro (show scal _ _ = true by rfl) ?_; refine br_rev ?_; refine br_sw ?_; refine br_true ?_; refine dw_or1 ?_; refine dt_neQ (by with_reducible assumption) ?_; refine de_isi (by with_reducible assumption) (by with_reducible assumption) (by (with_reducible assumption)) (by with_reducible assumption) ?_; k_ownIn; bits_by_make; k_ownIn; refine de_tyName (by with_reducible assumption) (by with_reducible assumption) (by (with_reducible assumption)) (by with_reducible assumption) (by (with_reducible exact _root_.PyProof.Rows.boot_list)) ?_; refine da_nil ?_; refine IsiS.mk (by rfl) (by rfl) (by (with_reducible exact kb_tuple_list)) ?_; refine de_isi (by with_reducible assumption) (by with_reducible assumption) (by (with_reducible assumption)) (by with_reducible assumption) ?_; k_ownIn; bits_by_make; k_ownIn; refine de_tyName (by with_reducible assumption) (by with_reducible assumption) (by (with_reducible assumption)) (by with_reducible assumption) (by (with_reducible exact _root_.PyProof.Rows.boot_list)) ?_; refine da_nil ?_; refine IsiS.mk (by rfl) (by rfl) (by (with_reducible exact kb_tuple_list)) ?_; refine EqQ.l (L2s.mk (by rfl) (by rfl) ?_); refine And.intro (show scal _ _ = true by rfl) ?_; refine br_sw ?_; refine br_true ?_; refine db_nil ?_; allgen_close2_more; refine ds_if ?_; refine dt_neQ (by with_reducible assumption) ?_; k_caughtN0; k_ownIn; bits_by_make; refine da_nil ?_; refine LenQ.s (LenS.seq (by rfl) (by rfl) ?_); k_caughtN0; k_ownIn; bits_by_make; refine da_nil ?_; refine LenQ.s (LenS.seq (by rfl) (by rfl) ?_); refine EqQ.l (L2s.mk (by rfl) (by rfl) ?_); refine And.intro (show scal _ _ = true by rfl) ?_; refine br_sw ?_; refine br_int (fun _ => ?_) (fun _ => ?_); refine db_nil ?_; allgen_close2_more; (rotate_left); allgen_close2_more; refine ds_ret ?_; refine de_bl ?_; kaf_suf; refine ⟨_, (by rfl), ?_⟩; (rotate_left)))
        · refine ds_for (by assumption) (di_range (by assumption) (by assumption) (by walk_at "nm") (by assumption) ?_)
          (focus (k_ownIn; k_caughtN0; k_ownIn; bits_by_make; refine da_nil ?_; refine LenQ.s (LenS.seq (by rfl) (by rfl) ?_); refine da_nil ?_; refine ⟨_, (by rfl), ?_⟩; kas_types))
          refine ⟨rfl, fun i δ => ∃ c, δ = [some (.tup xs), some (.tup xs), c], ⟨_, rfl⟩, ?_, ?_⟩
          · rintro i d δ2 hd ⟨c, rfl⟩
            obtain ⟨hi, rfl⟩ := rngD_get hd
            have hi' : i < xs.length := by simpa using hi
            have hz : ixN xs.length ((0 : Int) + (i : Nat)) = some i := by rw [ixN_of (by omega) (by omega)]; congr 1; omega
            have hd : xs[i]? = some xs[i] := List.getElem?_eq_getElem hi'
            have hp : Pm n xs[i] := hx _ (List.getElem_mem _)
            refine ⟨[2], ?_⟩
            (focus (fold_lay; allgen_close2_more; refine ds_if ?_; refine dt_not ?_; refine dt_val ?_; k_memK; k_ownIn; k_upd; bits_by_make; allgen_close_more))
            refine GetS.seqs rfl rfl hz hd (fun u => ?_)
            (focus (k_ownIn; k_upd; bits_by_make; allgen_close_more))
            refine GetS.seqs rfl rfl hz hd (fun u2 => ?_)
            (focus (refine da_nil ?_))
            have li := like_item (xs := xs) (q := .tup xs) (d := xs[i]) (u := u) (u2 := u2) (x := some (.int (0 + (i : Nat)))) (i := i) (by simp) hd
            refine ⟨[xs[i], xs[i]], li.1, rfl, by simp [slots], xs[i], rfl, hp, ?_⟩
            (focus ((with_reducible refine ex_bl ?_); refine br_sw ?_; refine br_true ?_; refine db_nil ?_; refine db_nil ?_))
            exact ⟨_, li.2⟩
          · rintro δ2 ⟨c, rfl⟩
            (focus (allgen_close2_more; refine ds_ret ?_; refine de_bl ?_; kaf_suf; refine ⟨_, (by rfl), ?_⟩))
            exact k
        · rename_i h; exact absurd rfl h
      | @lst _ xs hl hx =>
        (focus (allgen_close2_more; refine ds_if ?_; refine dt_val ?_; refine de_isi (by with_reducible assumption) (by with_reducible assumption) (by (with_reducible assumption)) (by with_reducible assumption) ?_; k_ownIn; bits_by_make; k_ownIn; refine de_tyName (by with_reducible assumption) (by with_reducible assumption) (by (with_reducible assumption)) (by with_reducible assumption) (by (with_reducible exact _root_.PyProof.Rows.boot_bool)) ?_; refine da_nil ?_; refine IsiS.mk (by rfl) (by rfl) (by (with_reducible exact kb_list_bool)) ?_; (with_reducible refine ex_bl ?_); refine br_false ?_; refine db_nil ?_; allgen_close2_more; refine ds_if ?_; refine dt_val ?_; refine de_isi (by with_reducible assumption) (by with_reducible assumption) (by (with_reducible assumption)) (by with_reducible assumption) ?_; k_ownIn; bits_by_make; k_ownIn; refine de_tyName (by with_reducible assumption) (by with_reducible assumption) (by (with_reducible assumption)) (by with_reducible assumption) (by (with_reducible exact _root_.PyProof.Rows.boot_str)) ?_; refine da_nil ?_; refine IsiS.mk (by rfl) (by rfl) (by (with_reducible exact kb_list_str)) ?_; (with_reducible refine ex_bl ?_); refine br_false ?_; refine db_nil ?_; allgen_close2_more; refine ds_if ?_; refine dt_val ?_; refine de_isi (by with_reducible assumption) (by with_reducible assumption) (by (with_reducible assumption)) (by with_reducible assumption) ?_; k_ownIn; bits_by_make; k_ownIn; refine de_tyName (by with_reducible assumption) (by with_reducible assumption) (by (with_reducible assumption)) (by with_reducible assumption) (by (with_reducible exact _root_.PyProof.Rows.boot_int)) ?_; refine da_nil ?_; refine IsiS.mk (by rfl) (by rfl) (by (with_reducible exact kb_list_int)) ?_; (with_reducible refine ex_bl ?_); refine br_false ?_; refine db_nil ?_; allgen_close2_more; refine ds_if ?_; refine dt_is ?_; bits_by_make; refine de_non ?_; (refine IsN.no (by rfl) (by intro v h; cases h <;> (intro q; cases q)) (by intro v e q; cases q) ?_); refine br_false ?_; refine db_nil ?_; allgen_close2_more; refine ds_if ?_; refine dt_pw (dw_or ?_); refine dt_neQ (by with_reducible assumption) ?_; refine de_isi (by with_reducible assumption) (by with_reducible assumption) (by (with_reducible assumption)) (by with_reducible assumption) ?_; k_ownIn; bits_by_make; k_ownIn; refine de_tyName (by with_reducible assumption) (by with_reducible assumption) (by (with_reducible assumption)) (by with_reducible assumption) (by (with_reducible exact _root_.PyProof.Rows.boot_tuple)) ?_; refine da_nil ?_; refine IsiS.mk (by rfl) (by rfl) (by (with_reducible exact kb_list_tuple)) ?_; refine de_isi (by with_reducible assumption) (by with_reducible assumption) (by (with_reducible assumption)) (by with_reducible assumption) ?_; k_ownIn; bits_by_make; k_ownIn; refine de_tyName (by with_reducible assumption) (by with_reducible assumption) (by (with_reducible assumption)) (by with_reducible assumption) (by (with_reducible exact _root_.PyProof.Rows.boot_tuple)) ?_; refine da_nil ?_; refine IsiS.mk (by rfl) (by rfl) (by (with_reducible exact kb_list_tuple)) ?_; refine EqQ.l (L2s.mk (by rfl) (by rfl) ?_); refine And.intro (show scal _ _ = true by rfl) ?_; refine br_rev ?_; refine br_sw ?_; refine br_true ?_; refine dw_or1 ?_; refine dt_neQ (by with_reducible assumption) ?_; refine de_isi (by with_reducible assumption) (by with_reducible assumption) (by (with_reducible assumption)) (by with_reducible assumption) ?_; k_ownIn; bits_by_make; k_ownIn; refine de_tyName (by with_reducible assumption) (by with_reducible assumption) (by (with_reducible assumption)) (by with_reducible assumption) (by (with_reducible exact _root_.PyProof.Rows.boot_list)) ?_; refine da_nil ?_; refine IsiS.mk (by rfl) (by rfl) (by (with_reducible exact kb_list_list)) ?_; refine de_isi (by with_reducible assumption) (by with_reducible assumption) (by (with_reducible assumption)) (by with_reducible assumption) ?_; k_ownIn; bits_by_make; k_ownIn; refine de_tyName (by with_reducible assumption) (by with_reducible assumption) (by (with_reducible assumption)) (by with_reducible assumption) (by (with_reducible exact _root_.PyProof.Rows.boot_list)) ?_; refine da_nil ?_; refine IsiS.mk (by rfl) (by rfl) (by (with_reducible exact kb_list_list)) ?_; refine EqQ.l (L2s.mk (by rfl) (by rfl) ?_); refine And.intro (show scal _ _ = true by rfl) ?_; refine br_sw ?_; refine br_true ?_; refine db_nil ?_; allgen_close2_more; refine ds_if ?_; refine dt_neQ (by with_reducible assumption) ?_; k_caughtN0; k_ownIn; bits_by_make; refine da_nil ?_; refine LenQ.s (LenS.seq (by rfl) (by rfl) ?_); k_caughtN0; k_ownIn; bits_by_make; refine da_nil ?_; refine LenQ.s (LenS.seq (by rfl) (by rfl) ?_); refine EqQ.l (L2s.mk (by rfl) (by rfl) ?_); refine And.intro (show scal _ _ = true by rfl) ?_; refine br_sw ?_; refine br_int (fun _ => ?_) (fun _ => ?_); refine db_nil ?_; allgen_close2_more; (rotate_left); allgen_close2_more; refine ds_ret ?_; refine de_bl ?_; kaf_suf; refine ⟨_, (by rfl), ?_⟩; (rotate_left)))
        · refine ds_for (by assumption) (di_range (by assumption) (by assumption) (by walk_at "nm") (by assumption) ?_)
          (focus (k_ownIn; k_caughtN0; k_ownIn; bits_by_make; refine da_nil ?_; refine LenQ.s (LenS.seq (by rfl) (by rfl) ?_); refine da_nil ?_; refine ⟨_, (by rfl), ?_⟩; kas_types))
          refine ⟨rfl, fun i δ => ∃ c, δ = [some (.lst xs), some (.lst xs), c], ⟨_, rfl⟩, ?_, ?_⟩
          · rintro i d δ2 hd ⟨c, rfl⟩
            obtain ⟨hi, rfl⟩ := rngD_get hd
            have hi' : i < xs.length := by simpa using hi
            have hz : ixN xs.length ((0 : Int) + (i : Nat)) = some i := by rw [ixN_of (by omega) (by omega)]; congr 1; omega
            have hd : xs[i]? = some xs[i] := List.getElem?_eq_getElem hi'
            have hp : Pm n xs[i] := hx _ (List.getElem_mem _)
            refine ⟨[2], ?_⟩
            (focus (fold_lay; allgen_close2_more; refine ds_if ?_; refine dt_not ?_; refine dt_val ?_; k_memK; k_ownIn; k_upd; bits_by_make; allgen_close_more))
            refine GetS.seqs rfl rfl hz hd (fun u => ?_)
            (focus (k_ownIn; k_upd; bits_by_make; allgen_close_more))
            refine GetS.seqs rfl rfl hz hd (fun u2 => ?_)
            (focus (refine da_nil ?_))
            have li := like_item (xs := xs) (q := .lst xs) (d := xs[i]) (u := u) (u2 := u2) (x := some (.int (0 + (i : Nat)))) (i := i) (by simp) hd
            refine ⟨[xs[i], xs[i]], li.1, rfl, by simp [slots], xs[i], rfl, hp, ?_⟩
            (focus ((with_reducible refine ex_bl ?_); refine br_sw ?_; refine br_true ?_; refine db_nil ?_; refine db_nil ?_))
            exact ⟨_, li.2⟩
          · rintro δ2 ⟨c, rfl⟩
            (focus (allgen_close2_more; refine ds_ret ?_; refine de_bl ?_; kaf_suf; refine ⟨_, (by rfl), ?_⟩))
            exact k
        · rename_i h; exact absurd rfl h
      | _ => walk_at "go"; simpa using k
end
local macro_rules | `(tactic| walk_at "h:l_straight") => `(tactic| (have : Sl n_l_straight 0 "_law_d" := rfl; have : Sl n_l_straight 1 "_law_at" := rfl; have : Sl n_l_straight 2 "_law_way" := rfl; have : Nm (defScope s_l_straight) "_law_d" .local := rfl; have : Nm (defScope s_l_straight) "_law_at" .local := rfl; have : Nm (defScope s_l_straight) "_law_way" .local := rfl; have : Nm (defScope s_l_straight) "_law_next" .globalImplicit := rfl; have : PlN "_law_d" := pl__law_d; have : PlN "_law_at" := pl__law_at; have : PlN "_law_way" := pl__law_way; have : PlN "_law_next" := pl__law_next; (show DB _ _ [some _, some _, none] (defBody s_l_straight) _)))
section
variable {P : Program} {w : World} {K : PySem.W.Frag} {mg : Str → Option Value} {base : Heap}
theorem ok_straight {f : Addr} {fd : FuncData} (F : L2.Fun K "_law_straight" "_law_straight" s_l_straight f fd) (G : GFn P w K mg base 1 "_law_next" 2 preNext) : FnOk P w K mg base CX0 2 f fd p_l_straight (spD K 2 preStraight) := by
  refine okD (N := n_l_straight) [true, false] F sc_l_straight rfl (by decide) ?_ ?_
  · rintro ds Φ _ ⟨g, n, rfl, _⟩
    exact imm_at1 (imm_cons imm_int imm_nil)
  · rintro X f ds Φ B hF J hr hp _ ⟨g, a, rfl, ok, a0, a1, k⟩
    walk_at "h:l_straight"
    (focus (allgen_close2_more; cell_call; k_memK; k_ownIn; bits_by_make; k_ownIn; refine de_int ?_; refine da_nil ?_; k_allIn; refine ⟨_, _, rfl, ?_⟩; kba_ints; kas_types; k_offL))
    intro kk g1 k0 k1 ok1
    (focus (kaf_suf; allgen_close2_more; refine ds_if ?_; refine dt_eqQ (by with_reducible assumption) ?_; allgen_close_more; refine de_int ?_; refine EqQ.l (L2s.mk (by rfl) (by rfl) ?_); refine And.intro (show scal _ _ = true by rfl) ?_; refine br_int (fun _ => ?_) (fun _ => ?_); allgen_close2_more; refine ds_ret ?_; refine de_tup ?_; k_ownIn; refine de_str ?_; k_ownIn; refine de_add ?_; allgen_close_more; refine de_int ?_; refine AddS.int ?_; refine da_nil ?_; kaf_pre; k_clsL; kaf_suf; refine ⟨_, (by rfl), ?_⟩; (rotate_left); refine db_nil ?_; allgen_close2_more; refine ds_ret ?_; refine de_tup ?_; k_ownIn; k_upd; refine de_list ?_; k_ownIn; refine de_str ?_; k_ownIn; refine de_str ?_; k_ownIn; refine de_str ?_; k_ownIn; refine de_str ?_; k_ownIn; refine de_str ?_; refine da_nil ?_; ((with_reducible refine' ex_takes ?exa ?_); (case exa => ((apply Takes.cons Take.v; apply Takes.cons Take.v; apply Takes.cons Take.v; apply Takes.cons Take.v; apply Takes.cons Take.v; exact Takes.nil)))); refine And.intro (show _ ≤ sizeLine by (decide)) ?_; allgen_close_more; (rotate_left)))
    · exact k (.say (a + 1)) g1 ⟨by omega, by omega⟩ .say ok1
    · rename_i hne
      obtain ⟨o, ho⟩ : ∃ o : Op4, atI [D.str "load", D.str "add", D.str "take", D.str "store", D.str "add"] kk = some (.str o.s) := by
        have : kk = 0 ∨ kk = 1 ∨ kk = 2 ∨ kk = 3 ∨ kk = 4 := by omega
        rcases this with rfl | rfl | rfl | rfl | rfl
        · exact ⟨.load, rfl⟩
        · exact ⟨.add, rfl⟩
        · exact ⟨.take, rfl⟩
        · exact ⟨.store, rfl⟩
        · exact ⟨.add, rfl⟩
      refine GetS.seq rfl rfl ho imm_str ?_
      (focus (k_ownIn; refine de_add ?_; refine de_int ?_; k_memK; k_ownIn; bits_by_make; k_ownIn; refine de_int ?_; refine da_nil ?_; k_allIn; refine ⟨_, _, rfl, ?_⟩; kba_ints; kas_types; k_offL))
      intro v g2 v0 v1 ok2
      (focus (refine AddS.int ?_; k_ownIn; refine de_add ?_; allgen_close_more; refine de_int ?_; refine AddS.int ?_; refine da_nil ?_; k_subL; k_clsL; kaf_suf; refine ⟨_, (by rfl), ?_⟩))
      exact k (.op o (5 + v) (a + 1)) g2 ⟨⟨by omega, by omega⟩, by omega, by omega⟩ .op ok2
end
local macro_rules | `(tactic| walk_at "h:l_fork") => `(tactic| (have : Sl n_l_fork 0 "_law_d" := rfl; have : Sl n_l_fork 1 "_law_at" := rfl; have : Sl n_l_fork 2 "_law_yes" := rfl; have : Sl n_l_fork 3 "_law_begin" := rfl; have : Sl n_l_fork 4 "_law_no" := rfl; have : Sl n_l_fork 5 "_law_k" := rfl; have : Nm (defScope s_l_fork) "_law_d" .cell := rfl; have : Nm (defScope s_l_fork) "_law_at" .cell := rfl; have : Nm (defScope s_l_fork) "_law_yes" .local := rfl; have : Nm (defScope s_l_fork) "_law_begin" .cell := rfl; have : Nm (defScope s_l_fork) "_law_no" .local := rfl; have : Nm (defScope s_l_fork) "range" .globalImplicit := rfl; have : Nm (defScope s_l_fork) "_law_next" .globalImplicit := rfl; have : Nm (defScope s_l_fork) "len" .globalImplicit := rfl; have : PlN "_law_d" := pl__law_d; have : PlN "_law_at" := pl__law_at; have : PlN "_law_yes" := pl__law_yes; have : PlN "_law_begin" := pl__law_begin; have : PlN "_law_no" := pl__law_no; have : PlN "_law_k" := pl__law_k; have : PlN "range" := pl_range; have : PlN "_law_next" := pl__law_next; have : PlN "len" := pl_len; (show DB _ _ [some _, some _, none, none, none, none] (defBody s_l_fork) _)))
section
variable {P : Program} {w : World} {K : PySem.W.Frag} {mg : Str → Option Value} {base : Heap}
theorem ok_fork {f : Addr} {fd : FuncData} (F : L2.Fun K "_law_fork" "_law_fork" s_l_fork f fd) (h1 : mg "len" = none) (h2 : mg "range" = none) (G : GFn P w K mg base 1 "_law_next" 2 preNext) (G2 : GFn P w K mg base 2 "_law_straight" 2 preStraight) : FnOk P w K mg base CX0 3 f fd p_l_fork (spD K 2 preFork) := by
  refine okD (N := n_l_fork) [true, false] F sc_l_fork rfl (by decide) ?_ ?_
  · rintro ds Φ _ ⟨g, n, rfl, _⟩
    exact imm_at1 (imm_cons imm_int imm_nil)
  · rintro X f ds Φ B hF J hr hp _ ⟨g, a, rfl, ok, a0, a1, k⟩
    walk_at "h:l_fork"
    (focus (allgen_close2_more))
    refine ds_setLc (own := [("_law_k", 5)]) (by assumption) (by walk_at "nm") (by walk_at "nm") (by walk_at "pin") (by walk_at "swap") (by walk_at "blk") (by walk_at "pins") (di_range (by assumption) (by assumption) (by walk_at "nm") (by assumption) ?_)
    (focus (k_ownIn; refine de_add ?_; refine de_int ?_; got_up; k_ownIn; isplit; k_ownIn; refine de_int ?_; refine da_nil ?_; k_allIn; refine ⟨_, _, rfl, ?_⟩; kba_ints; kas_types; k_offL))
    intro n g1 n0 n1 okg1
    (focus (refine AddS.int ?_; refine da_nil ?_; refine ⟨_, (by rfl), ?_⟩; kas_types))
    refine ⟨rfl, by rw [rngD_len, sizeLine_eq]; omega, fun i acc δ => ∃ (gi : Dice) (rs : List Row), gi.Ok ∧ acc = rowsD rs ∧ rs.length = i ∧ (∀ r ∈ rs, r.Line ∧ r.Ok 8 (a + 2 + i + 1)) ∧ δ = [some gi.d, some (.int a), none, none, none, none], ⟨g1, [], okg1, rfl, rfl, by simp, rfl⟩, ?_, ?_⟩
    · rintro i d acc δ2 hd _ ⟨gi, rs, oki, rfl, hl, hrs, rfl⟩
      obtain ⟨hi, rfl⟩ := rngD_get hd
      unfold Turn1
      (focus (k_caughtB; k_intsEnd; k_caughtB; refine dts_nil ?_; refine br_true ?_; k_caughtB; (refine de_call (by with_reducible assumption) (by with_reducible assumption) (by with_reducible assumption) ?hroom (by (exact rfl)) ?_; (case hroom => (with_reducible assumption))); k_ownIn; kat_tups; k_ownIn; refine de_add ?_; refine de_add ?_; (refine de_name (by with_reducible assumption) (by with_reducible assumption) (by (exact Nm.vis (k := .cell) (by exact rfl) rfl)) (by rfl) (by (((with_reducible (exact imm_int)); done))) ?_); refine de_int ?_; refine AddS.int ?_; k_places; refine AddS.int ?_; refine da_nil ?_; k_allIn; refine ⟨_, _, rfl, (by with_reducible assumption), ?_⟩; kas_types; kas_types))
      intro r g3 hr3 hli ok3
      (focus (kaf_suf))
      exact ⟨g3, rs ++ [r], ok3, by simp [addO, rowsD], by simp [hl], fun q m => by
        rcases List.mem_append.mp m with m | m
        · exact ⟨(hrs q m).1, (hrs q m).2.mono (Int.le_refl _) (by omega)⟩
        · rw [List.mem_singleton.mp m]
          exact ⟨hli, hr3.mono (Int.le_refl _) (by omega)⟩, rfl⟩
    · rintro acc δ2 ⟨g2, yes, ok2, rfl, hly, hyes, rfl⟩
      rw [rngD_len] at hly hyes
      (focus (kaf_suf; allgen_close2_more; refine ds_set (by with_reducible assumption) (by (with_reducible assumption)) (by (exact Nm.stoC (by with_reducible assumption) (by assumption))) (by (exact unp_of (by with_reducible assumption) (by rfl))) ?_; refine de_add ?_; refine de_add ?_; (refine de_name (by with_reducible assumption) (by with_reducible assumption) (by (with_reducible exact Nm.vis (k := .cell) (by assumption) rfl)) (by rfl) (by (((with_reducible (exact imm_int)); done))) ?_); refine de_int ?_; refine AddS.int ?_; k_caughtN0; k_ownIn; bits_by_make; refine da_nil ?_; refine LenQ.s (LenS.seq (by rfl) (by rfl) ?_); refine AddS.int ?_; kaf_suf; allgen_close2_more))
      have hy1 : 1 ≤ yes.length := by omega
      have hy2 : yes.length ≤ 2 := by omega
      have eb : ((rowsD yes).length : Int) = yes.length := by simp [rowsD]
      rw [eb]
      refine ds_setLc (own := [("_law_k", 5)]) (by assumption) (by walk_at "nm") (by walk_at "nm") (by walk_at "pin") (by walk_at "swap") (by walk_at "blk") (by walk_at "pins") (di_range (by assumption) (by assumption) (by walk_at "nm") (by assumption) ?_)
      (focus (k_ownIn; refine de_add ?_; refine de_int ?_; got_up; k_ownIn; isplit; k_ownIn; refine de_int ?_; refine da_nil ?_; k_allIn; refine ⟨_, _, rfl, ?_⟩; kba_ints; kas_types; k_offL))
      intro m g4 m0 m1 okg4
      (focus (refine AddS.int ?_; refine da_nil ?_; refine ⟨_, (by rfl), ?_⟩; kas_types))
      refine ⟨rfl, by rw [rngD_len, sizeLine_eq]; omega, fun i acc δ => ∃ (gi : Dice) (rs : List Row), gi.Ok ∧ acc = rowsD rs ∧ rs.length = i ∧ (∀ r ∈ rs, r.Line ∧ r.Ok 8 (a + 2 + yes.length + i + 1)) ∧ δ = [some gi.d, some (.int a), some (.lst (rowsD yes)), some (.int (a + 2 + yes.length)), none, none], ⟨g4, [], okg4, rfl, rfl, by simp, rfl⟩, ?_, ?_⟩
      · rintro i d acc δ2 hd _ ⟨gi, rs, oki, rfl, hl, hrs, rfl⟩
        obtain ⟨hi, rfl⟩ := rngD_get hd
        unfold Turn1
        (focus (k_caughtB; k_intsEnd; k_caughtB; refine dts_nil ?_; refine br_true ?_; k_caughtB; (refine de_call (by with_reducible assumption) (by with_reducible assumption) (by with_reducible assumption) ?hroom (by (exact rfl)) ?_; (case hroom => (with_reducible assumption))); k_ownIn; kat_tups; k_ownIn; refine de_add ?_; (refine de_name (by with_reducible assumption) (by with_reducible assumption) (by (exact Nm.vis (k := .cell) (by exact rfl) rfl)) (by rfl) (by (((with_reducible (exact imm_int)); done))) ?_); k_places; refine AddS.int ?_; refine da_nil ?_; k_allIn; refine ⟨_, _, rfl, (by with_reducible assumption), ?_⟩; kas_types; kas_types))
        intro r g3 hr3 hli ok3
        (focus (kaf_suf))
        exact ⟨g3, rs ++ [r], ok3, by simp [addO, rowsD], by simp [hl], fun q m => by
          rcases List.mem_append.mp m with m | m
          · exact ⟨(hrs q m).1, (hrs q m).2.mono (Int.le_refl _) (by omega)⟩
          · rw [List.mem_singleton.mp m]
            exact ⟨hli, hr3.mono (Int.le_refl _) (by omega)⟩, rfl⟩
      · rintro acc δ2 ⟨g5, no, ok5, rfl, hln, hno, rfl⟩
        rw [rngD_len] at hln hno
        have en : ((rowsD no).length : Int) = no.length := by simp [rowsD]
        have hn1 : 1 ≤ no.length := by omega
        have hn2 : no.length ≤ 2 := by omega
        obtain ⟨ys, y, rfl⟩ := last_of hy1
        have hy := hyes y (by simp)
        have ey : rowsD (ys ++ [y]) = rowsD ys ++ [y.d] := by simp [rowsD]
        have el : (ys ++ [y]).length = ys.length + 1 := by simp
        have hat : atI (rowsD ys ++ [y.d]) (-1) = some y.d := atI_last
        have hyi := y.imm
        have ird : ∀ x ∈ rowsD ys, Imm x := rowsD_imm
        have irn : ∀ x ∈ rowsD no, Imm x := rowsD_imm
        have iar : ∀ x ∈ y.args.map D.int, Imm x := imm_map fun _ => imm_int
        rw [ey]
        (focus (kaf_suf; allgen_close2_more; refine ds_sto (by with_reducible assumption) ?_; refine de_add ?_; refine de_slice ?_; k_upd; bits_by_make; refine de_neg ?_; refine de_int ?_; (with_reducible refine ex_int ?_)))
        refine GetS.seq rfl rfl hat hyi ?_
        (focus (refine do_none ?_; refine do_some ?_; refine de_neg ?_; refine de_int ?_; (with_reducible refine ex_int ?_); (with_reducible refine ex_int ?_); (refine SlS.tup (by rfl) (by (((with_reducible (refine imm_cons ?_ ?_; exact imm_str; assumption)); done))) ?_); refine de_tup ?_; k_ownIn; refine de_add ?_; (refine de_name (by with_reducible assumption) (by with_reducible assumption) (by (with_reducible exact Nm.vis (k := .cell) (by assumption) rfl)) (by rfl) (by (((with_reducible (exact imm_int)); done))) ?_); k_caughtN0; k_ownIn; bits_by_make; refine da_nil ?_; refine LenQ.s (LenS.seq (by rfl) (by rfl) ?_); refine AddS.int ?_; refine da_nil ?_; ((with_reducible refine' ex_takes ?exa ?_); (case exa => ((apply Takes.cons Take.v; exact Takes.nil)))); k_clsL))
        have hcl : ∀ z : D, (cutA (D.str y.nm :: y.args.map D.int) none (some (-1))).length + [z].length ≤ sizeLine := fun z => by
          have h1 : (cutA (D.str y.nm :: y.args.map D.int) none (some (-1))).length ≤ 3 := by
            have h2 : (D.str y.nm :: y.args.map D.int).length ≤ 3 := by have := y.wl; simpa [Row.ws] using this
            refine Nat.le_trans ?_ h2
            unfold cutA
            rw [List.length_take, List.length_drop]
            omega
          rw [sizeLine_eq]; simp only [List.length_singleton]; omega
        refine AddS.tup rfl rfl (imm_app (imm_cut (imm_cons imm_str iar)) (imm_cons imm_int imm_nil)) (hcl _) ?_
        rw [Row.to_d hy.1]
        (focus (kaf_suf; bits_by_make; refine de_neg ?_; refine de_int ?_; (with_reducible refine ex_int ?_)))
        have hix : ixN (rowsD ys ++ [y.d]).length (-1) = some (rowsD ys).length := by
          rw [List.length_append, List.length_singleton]
          exact ixN_last _
        refine StoS.lst rfl hix ?_
        rw [set_last]
        have hz := (Row.to (a + 2 + ((ys ++ [y]).length : Nat) + ((rowsD no).length : Nat)) y).imm
        (focus (allgen_close2_more; refine ds_ret ?_; refine de_add ?_; refine de_add ?_; refine de_list ?_; k_ownIn; refine de_tup ?_; k_ownIn; refine de_str ?_; k_ownIn; refine de_add ?_; refine de_int ?_; got_up; k_ownIn; isplit; k_ownIn; refine de_int ?_; refine da_nil ?_; k_allIn; refine ⟨_, _, rfl, ?_⟩; kba_ints; kas_types; k_offL))
        intro v g6 v0 v1 ok6
        (focus (refine AddS.int ?_; k_ownIn; refine de_add ?_; (refine de_name (by with_reducible assumption) (by with_reducible assumption) (by (with_reducible exact Nm.vis (k := .cell) (by assumption) rfl)) (by rfl) (by (((with_reducible (exact imm_int)); done))) ?_); refine de_int ?_; refine AddS.int ?_; refine da_nil ?_; k_subL; k_clsL; k_ownIn; refine de_tup ?_; k_ownIn; refine de_str ?_; k_ownIn; refine de_add ?_; (refine de_name (by with_reducible assumption) (by with_reducible assumption) (by (with_reducible exact Nm.vis (k := .cell) (by assumption) rfl)) (by rfl) (by (((with_reducible (exact imm_int)); done))) ?_); refine de_int ?_; refine AddS.int ?_; k_ownIn; (refine de_name (by with_reducible assumption) (by with_reducible assumption) (by (with_reducible exact Nm.vis (k := .cell) (by assumption) rfl)) (by rfl) (by (((with_reducible (exact imm_int)); done))) ?_); refine da_nil ?_; k_subL; k_clsL; refine da_nil ?_; kaf_pre; k_clsL; bits_by_make))
        have hyl : ys.length ≤ 1 := by simp at hy2; omega
        refine AddS.lst rfl rfl (imm_app (imm_cons (imm_tup (imm_cons imm_str (imm_cons imm_int (imm_cons imm_int imm_nil)))) (imm_cons (imm_tup (imm_cons imm_str (imm_cons imm_int (imm_cons imm_int imm_nil)))) imm_nil)) (imm_app ird (imm_cons hz imm_nil))) (by rw [sizeLine_eq]; simp [rowsD]; omega) ?_
        (focus (bits_by_make))
        refine AddS.lst rfl rfl (imm_app (imm_app (imm_cons (imm_tup (imm_cons imm_str (imm_cons imm_int (imm_cons imm_int imm_nil)))) (imm_cons (imm_tup (imm_cons imm_str (imm_cons imm_int (imm_cons imm_int imm_nil)))) imm_nil)) (imm_app ird (imm_cons hz imm_nil))) irn) (by rw [sizeLine_eq]; simp [rowsD]; omega) ?_
        (focus (kaf_suf; refine ⟨_, (by rfl), ?_⟩))
        have key : ∀ z : Int, z = a + 2 + ((ys ++ [y]).length : Nat) + ((rowsD no).length : Nat) → Φ (.lst (rowsD ((.op .load (5 + v) (a + 1)) :: (.test (a + 2) (a + 2 + ((ys ++ [y]).length : Nat))) :: (ys ++ [Row.to z y]) ++ no))) [g6.d, .int a] := fun z ez => by
          have en' : z = a + 3 + ys.length + no.length := by rw [ez, en]; simp; omega
          refine k _ g6 (by simp; omega) (fun q m => ?_) ok6
          have elen : (((.op .load (5 + v) (a + 1)) :: (.test (a + 2) (a + 2 + ((ys ++ [y]).length : Nat))) :: (ys ++ [Row.to z y]) ++ no : List Row).length : Int) = 3 + ys.length + no.length := by simp; omega
          rw [elen]
          simp only [List.cons_append, List.mem_cons, List.mem_append, List.mem_singleton, List.not_mem_nil, or_false] at m
          rcases m with rfl | rfl | (m | rfl) | m
          · exact ⟨⟨by omega, by omega⟩, by omega, by omega⟩
          · exact ⟨⟨by omega, by omega⟩, by simp; omega, by simp; omega⟩
          · exact (Row.okL (hyes q (by simp [m])).1 (hyes q (by simp [m])).2).mono (Int.le_refl _) (by omega)
          · exact Row.to_okL hy.1 hy.2 (by omega) (by omega)
          · exact (Row.okL (hno q m).1 (hno q m).2).mono (Int.le_refl _) (by simp; omega)
        have kk := key _ rfl
        simpa [rowsD, Row.d, Row.nm, Row.args, Op4.s] using kk
end
local macro_rules | `(tactic| walk_at "h:l_body") => `(tactic| (have : Sl n_l_body 0 "_law_d" := rfl; have : Sl n_l_body 1 "_law_at" := rfl; have : Sl n_l_body 2 "_law_deep" := rfl; have : Sl n_l_body 3 "_law_found" := rfl; have : Sl n_l_body 4 "_law_turn" := rfl; have : Sl n_l_body 5 "_law_here" := rfl; have : Sl n_l_body 6 "_law_way" := rfl; have : Sl n_l_body 7 "_law_inner" := rfl; have : Sl n_l_body 8 "_law_behind" := rfl; have : Nm (defScope s_l_body) "_law_d" .local := rfl; have : Nm (defScope s_l_body) "_law_at" .local := rfl; have : Nm (defScope s_l_body) "_law_deep" .local := rfl; have : Nm (defScope s_l_body) "_law_found" .local := rfl; have : Nm (defScope s_l_body) "_law_turn" .local := rfl; have : Nm (defScope s_l_body) "_law_here" .local := rfl; have : Nm (defScope s_l_body) "_law_way" .local := rfl; have : Nm (defScope s_l_body) "_law_inner" .local := rfl; have : Nm (defScope s_l_body) "_law_behind" .local := rfl; have : Nm (defScope s_l_body) "range" .globalImplicit := rfl; have : Nm (defScope s_l_body) "_law_next" .globalImplicit := rfl; have : Nm (defScope s_l_body) "len" .globalImplicit := rfl; have : Nm (defScope s_l_body) "_law_straight" .globalImplicit := rfl; have : Nm (defScope s_l_body) "_law_fork" .globalImplicit := rfl; have : Nm (defScope s_l_body) "_law_body" .globalImplicit := rfl; have : PlN "_law_d" := pl__law_d; have : PlN "_law_at" := pl__law_at; have : PlN "_law_deep" := pl__law_deep; have : PlN "_law_found" := pl__law_found; have : PlN "_law_turn" := pl__law_turn; have : PlN "_law_here" := pl__law_here; have : PlN "_law_way" := pl__law_way; have : PlN "_law_inner" := pl__law_inner; have : PlN "_law_behind" := pl__law_behind; have : PlN "range" := pl_range; have : PlN "_law_next" := pl__law_next; have : PlN "len" := pl_len; have : PlN "_law_straight" := pl__law_straight; have : PlN "_law_fork" := pl__law_fork; have : PlN "_law_body" := pl__law_body; (show DB _ _ [some _, some _, some _, none, none, none, none, none, none] (defBody s_l_body) _)))
section
variable {P : Program} {w : World} {K : PySem.W.Frag} {mg : Str → Option Value} {base : Heap}
theorem ok_body {f : Addr} {fd : FuncData} (F : L2.Fun K "_law_body" "_law_body" s_l_body f fd) (h1 : mg "len" = none) (h2 : mg "range" = none) (G : GFn P w K mg base 1 "_law_next" 2 preNext) (G2 : GFn P w K mg base 2 "_law_straight" 2 preStraight) (G3 : GFn P w K mg base 3 "_law_fork" 2 preFork)
    (k : Nat) (n : Nat) (G4 : n = 0 ∨ (GFn P w K mg base (k + 3) "_law_body" 3 (preBody (n - 1)))) (hn : n ≤ 2) : FnOk P w K mg base CX0 (k + 4) f fd p_l_body (spD K 3 (preBody n)) := by
  refine okD (N := n_l_body) [true, false, false] F sc_l_body rfl (by decide) ?_ ?_
  · rintro ds Φ _ ⟨g, n, deep, rfl, _⟩
    exact imm_at1 (imm_cons imm_int (imm_cons imm_int imm_nil))
  · rintro X f ds Φ B hF J hr hp _ ⟨g, a, deep, rfl, ok, a0, a1, d0, d1, k⟩
    walk_at "h:l_body"
    have r1 : Room 1 X.A := Room.mono hr (by omega)
    have r2 : Room 2 X.A := Room.mono hr (by omega)
    have r3 : Room 3 X.A := Room.mono hr (by omega)
    (focus (allgen_close2_more; cell_call; refine de_list ?_; refine da_nil ?_; ((with_reducible refine' ex_takes ?exa ?_); (case exa => ((exact Takes.nil)))); refine And.intro (show _ ≤ sizeLine by (decide)) ?_; kaf_suf; allgen_close2_more))
    refine ds_for (by assumption) (di_range (by assumption) (by assumption) (by walk_at "nm") (by assumption) ?_)
    (focus (k_ownIn; refine de_add ?_; refine de_int ?_; k_memK; k_ownIn; bits_by_make; k_ownIn; refine de_int ?_; refine da_nil ?_; k_allIn; refine ⟨_, _, rfl, ?_⟩; kba_ints; kas_types; k_offL))
    intro m g1 m0 m1 ok1
    (focus (refine AddS.int ?_; refine da_nil ?_; refine ⟨_, (by rfl), ?_⟩; kas_types))
    obtain ⟨c, hc, c6, c78, hin⟩ : ∃ c : Int, bnd deep = 3 * c ∧ 6 ≤ c ∧ c ≤ 78 ∧ (0 < deep → bnd (deep - 1) + 6 = c) := by
      have : deep = 0 ∨ deep = 1 ∨ deep = 2 := by omega
      rcases this with rfl | rfl | rfl
      · exact ⟨6, rfl, by omega, by omega, by omega⟩
      · exact ⟨24, rfl, by omega, by omega, fun _ => rfl⟩
      · exact ⟨78, rfl, by omega, by omega, fun _ => rfl⟩
    refine ⟨rfl, fun i δ => ∃ (gi : Dice) (rs : List Row) (x1 x2 x3 x4 x5 : Option D), gi.Ok ∧ (rs.length : Int) ≤ i * c ∧ RowsOk a rs ∧ δ = [some gi.d, some (.int a), some (.int deep), some (.lst (rowsD rs)), x1, x2, x3, x4, x5], ⟨g1, [], _, _, _, _, _, ok1, by simp, (fun _ m => nomatch m), rfl⟩, ?_, ?_⟩
    · rintro i d δ2 hd ⟨gi, rs, x1, x2, x3, x4, x5, oki, hl, hrs, rfl⟩
      obtain ⟨hi, rfl⟩ := rngD_get hd
      have hi3 : i ≤ 2 := by omega
      have hl2 : (rs.length : Int) ≤ 2 * c := Int.le_trans hl (Int.mul_le_mul_of_nonneg_right (by omega) (by omega))
      have ei : ((i + 1 : Nat) : Int) * c = i * c + c := by rw [Int.natCast_succ, Int.add_mul, Int.one_mul]
      have ir : ∀ x ∈ rowsD rs, Imm x := rowsD_imm
      have hsz : (rowsD rs).length < sizeLine := by rw [sizeLine_eq]; simp [rowsD]; omega
      have eh : ((rowsD rs).length : Int) = rs.length := by simp [rowsD]
      have fin : ∀ (qs : List Row) (g' : Dice) (x1 x2 x3 x4 x5 : Option D), g'.Ok → (qs.length : Int) ≤ c → (∀ r ∈ qs, r.OkL 8 (a + rs.length + qs.length + 1)) → ∃ (gi : Dice) (ss : List Row) (y1 y2 y3 y4 y5 : Option D), gi.Ok ∧ (ss.length : Int) ≤ (i + 1 : Nat) * c ∧ RowsOk a ss ∧ [some g'.d, some (.int a), some (.int deep), some (.lst (rowsD (rs ++ qs))), x1, x2, x3, x4, x5] = [some gi.d, some (.int a), some (.int deep), some (.lst (rowsD ss)), y1, y2, y3, y4, y5] :=
        fun qs g' x1 x2 x3 x4 x5 ok' hq hr => ⟨g', rs ++ qs, x1, x2, x3, x4, x5, ok', by rw [ei]; simp; omega, hrs.app hr, rfl⟩
      refine ⟨[4], ?_⟩
      (focus (fold_lay; allgen_close2_more; cell_call; refine de_add ?_; allgen_close_more; k_caughtN0; k_ownIn; bits_by_make; refine da_nil ?_; refine LenQ.s (LenS.seq (by rfl) (by rfl) ?_); refine AddS.int ?_; kaf_suf; allgen_close2_more; cell_call; k_memK; k_ownIn; bits_by_make; k_ownIn; refine de_int ?_; refine da_nil ?_; k_allIn; refine ⟨_, _, rfl, ?_⟩; kba_ints; kas_types; k_offL))
      rw [eh]
      intro way g2 w0 w1 ok2
      refine ⟨_, _, Take.v, ?_⟩
      refine db_cons (ds_if ((?_ : DT X f [some g2.d, some (.int a), some (.int deep), some (.lst (rowsD rs)), some (.int (0 + (i : Int))), some (.int (a + rs.length)), some (.int way), x4, x5] _ fun _ δ' => ∃ g' : Dice, g'.Ok ∧ δ' = [some g'.d, some (.int a), some (.int deep), some (.lst (rowsD rs)), some (.int (0 + (i : Int))), some (.int (a + rs.length)), some (.int way), x4, x5]).mono ?_))
      · (focus (refine dt_pw (dw_or ?_); refine dt_lt ?_; allgen_close_more; refine de_int ?_; refine I2.mk ?_; refine br_rev ?_; refine br_dec (fun _ => ?_) (fun _ => ?_); (rotate_left); refine dw_or1 ?_; refine dt_pw (dw_and ?_); refine dt_eqQ (by with_reducible assumption) ?_; allgen_close_more; refine de_int ?_; refine EqQ.l (L2s.mk (by rfl) (by rfl) ?_); refine And.intro (show scal _ _ = true by rfl) ?_; refine br_int (fun _ => ?_) (fun _ => ?_); refine dw_and ?_; refine dt_lt ?_; allgen_close_more; refine de_int ?_; refine I2.mk ?_; refine br_dec (fun _ => ?_) (fun _ => ?_); refine dw_and1 ?_; refine dt_eqQ (by with_reducible assumption) ?_; k_memK; k_ownIn; bits_by_make; k_ownIn; refine de_int ?_; refine da_nil ?_; k_allIn; refine ⟨_, _, rfl, ?_⟩; kba_ints; kas_types; k_offL; (rotate_left); (rotate_left); (rotate_left)))
        · exact ⟨_, ok2, rfl⟩
        all_goals first | exact ⟨_, ok2, rfl⟩ | skip
        all_goals (intro q g3 q0 q1 ok3; (focus (refine de_int ?_; refine EqQ.l (L2s.mk (by rfl) (by rfl) ?_); refine And.intro (show scal _ _ = true by rfl) ?_)))
        all_goals exact ⟨_, ok3, rfl⟩
      · rintro t δ' ⟨g3, ok3, rfl⟩
        constructor
        · intro _
          (focus (allgen_close2_more; refine ds_expr ?_; refine de_appendQ ?_; bits_by_make; refine And.intro (show IsLst _ _ from ⟨_, (by rfl)⟩) ?_; k_ownIn; k_memK; k_ownIn; bits_by_make; k_ownIn; allgen_close_more; refine da_nil ?_; k_allIn; refine ⟨_, _, rfl, (by with_reducible assumption), ?_⟩; kas_types; kas_types))
          intro r g4 hr4 hli4 ok4
          (focus (refine da_nil ?_; (with_reducible refine ex_1v ?_); refine AppQ.mk (by rfl) (by (with_reducible assumption)) ?_; refine db_nil ?_; refine db_nil ?_))
          exact ⟨g4, rs ++ [r], _, _, _, _, _, ok4, by rw [ei]; simp; omega, hrs.app (fun q m => by rw [List.mem_singleton.mp m]; exact (Row.okL hli4 hr4).mono (Int.le_refl _) (by simp; omega)), by rw [← rowsD_app]; rfl⟩
        · intro _
          (focus (allgen_close2_more; refine ds_if ?_; refine dt_eqQ (by with_reducible assumption) ?_; allgen_close_more; refine de_int ?_; refine EqQ.l (L2s.mk (by rfl) (by rfl) ?_); refine And.intro (show scal _ _ = true by rfl) ?_; refine br_int (fun _ => ?_) (fun _ => ?_); allgen_close2_more; cell_call; refine de_add ?_; bits_by_make; k_memK; k_ownIn; bits_by_make; k_ownIn; allgen_close_more; refine da_nil ?_; k_allIn; refine ⟨_, _, rfl, (by with_reducible assumption), ?_⟩; kas_types; kas_types; (rotate_left); allgen_close2_more; refine ds_if ?_; refine dt_gt ?_; allgen_close_more; refine de_int ?_; refine I2.mk ?_; refine br_dec (fun _ => ?_) (fun _ => ?_); allgen_close2_more; cell_call; (rotate_left); refine db_nil ?_; refine db_nil ?_; refine db_nil ?_; refine db_nil ?_; (rotate_left)))
          · intro qs g4 hq6 hqs ok4
            have iq : ∀ x ∈ rowsD qs, Imm x := rowsD_imm
            refine AddS.lst rfl rfl (imm_app ir iq) (by rw [sizeLine_eq]; simp [rowsD]; omega) ?_
            (focus (kaf_suf; refine db_nil ?_; refine db_nil ?_; refine db_nil ?_))
            exact ⟨g4, rs ++ qs, _, _, _, _, _, ok4, by rw [ei]; simp; omega, hrs.app hqs, by rw [← rowsD_app]; rfl⟩
          · rename_i hdp
            rcases G4 with rfl | G4
            · omega
            refine de_call (n := 3) (by assumption) (by assumption) G4 ?_ (by walk_at "nm") ?_
            · assumption
            (focus (k_ownIn; bits_by_make; k_ownIn; refine de_add ?_; allgen_close_more; refine de_int ?_; refine AddS.int ?_; k_ownIn; refine de_sub ?_; allgen_close_more; refine de_int ?_; refine I2.mk ?_; refine da_nil ?_; k_allIn))
            have hin' := hin (by omega)
            have hlen : (rs.length : Int) + c ≤ 3 * c := by omega
            refine ⟨g3, _, _, rfl, ok3, by omega, by omega, by omega, by omega, ?_⟩
            intro qs g4 hql hqs ok4
            have iq : ∀ x ∈ rowsD qs, Imm x := rowsD_imm
            have eq' : ((rowsD qs).length : Int) = qs.length := by simp [rowsD]
            (focus (kaf_suf; allgen_close2_more; cell_call; refine de_add ?_; refine de_add ?_; allgen_close_more; refine de_int ?_; refine AddS.int ?_; k_caughtN0; k_ownIn; bits_by_make; refine da_nil ?_; refine LenQ.s (LenS.seq (by rfl) (by rfl) ?_); refine AddS.int ?_; kaf_suf; allgen_close2_more; cell_call; refine de_add ?_; refine de_add ?_; bits_by_make; refine de_list ?_; k_ownIn; refine de_tup ?_; k_ownIn; refine de_str ?_; k_ownIn; allgen_close_more; k_ownIn; refine de_add ?_; allgen_close_more; refine de_int ?_; refine AddS.int ?_; refine da_nil ?_; k_subL; k_clsL; k_ownIn; refine de_tup ?_; k_ownIn; refine de_str ?_; k_ownIn; refine de_add ?_; refine de_int ?_; allgen_close_more; refine AddS.int ?_; k_ownIn; refine de_add ?_; allgen_close_more; refine de_int ?_; refine AddS.int ?_; refine da_nil ?_; k_subL; k_clsL; refine da_nil ?_; kaf_pre; k_clsL; (refine AddS.lst (by rfl) (by rfl) (by (((with_reducible (refine imm_app ?_ ?_; assumption; refine imm_cons ?_ ?_; refine imm_tup ?_; refine imm_cons ?_ ?_; exact imm_str; refine imm_cons ?_ ?_; exact imm_int; refine imm_cons ?_ ?_; exact imm_int; exact imm_nil; refine imm_cons ?_ ?_; refine imm_tup ?_; refine imm_cons ?_ ?_; exact imm_str; refine imm_cons ?_ ?_; exact imm_int; refine imm_cons ?_ ?_; exact imm_int; exact imm_nil; exact imm_nil)); done))) (by ((rw [sizeLine_eq]; simp; omega))) ?_); bits_by_make; (refine AddS.lst (by rfl) (by rfl) (by (((with_reducible (refine imm_app ?_ ?_; refine imm_app ?_ ?_; assumption; refine imm_cons ?_ ?_; refine imm_tup ?_; refine imm_cons ?_ ?_; exact imm_str; refine imm_cons ?_ ?_; exact imm_int; refine imm_cons ?_ ?_; exact imm_int; exact imm_nil; refine imm_cons ?_ ?_; refine imm_tup ?_; refine imm_cons ?_ ?_; exact imm_str; refine imm_cons ?_ ?_; exact imm_int; refine imm_cons ?_ ?_; exact imm_int; exact imm_nil; exact imm_nil; assumption)); done))) (by ((rw [sizeLine_eq]; simp; omega))) ?_); kaf_suf; allgen_close2_more; cell_call; refine de_add ?_; bits_by_make; refine de_list ?_; k_ownIn; refine de_tup ?_; k_ownIn; refine de_str ?_; k_ownIn; refine de_add ?_; refine de_int ?_; allgen_close_more; refine AddS.int ?_; k_ownIn; refine de_add ?_; allgen_close_more; refine de_int ?_; refine AddS.int ?_; refine da_nil ?_; k_subL; k_clsL; k_ownIn; refine de_tup ?_; k_ownIn; refine de_str ?_; k_ownIn; refine de_int ?_; k_ownIn; refine de_add ?_; allgen_close_more; refine de_int ?_; refine AddS.int ?_; refine da_nil ?_; k_subL; k_clsL; k_ownIn; refine de_tup ?_; k_ownIn; refine de_str ?_; k_ownIn; refine de_add ?_; refine de_int ?_; allgen_close_more; refine AddS.int ?_; k_ownIn; refine de_add ?_; allgen_close_more; refine de_int ?_; refine AddS.int ?_; refine da_nil ?_; k_subL; k_clsL; refine da_nil ?_; k_subL; k_clsL; (refine AddS.lst (by rfl) (by rfl) (by (((with_reducible (refine imm_app ?_ ?_; refine imm_app ?_ ?_; refine imm_app ?_ ?_; assumption; refine imm_cons ?_ ?_; refine imm_tup ?_; refine imm_cons ?_ ?_; exact imm_str; refine imm_cons ?_ ?_; exact imm_int; refine imm_cons ?_ ?_; exact imm_int; exact imm_nil; refine imm_cons ?_ ?_; refine imm_tup ?_; refine imm_cons ?_ ?_; exact imm_str; refine imm_cons ?_ ?_; exact imm_int; refine imm_cons ?_ ?_; exact imm_int; exact imm_nil; exact imm_nil; assumption; refine imm_cons ?_ ?_; refine imm_tup ?_; refine imm_cons ?_ ?_; exact imm_str; refine imm_cons ?_ ?_; exact imm_int; refine imm_cons ?_ ?_; exact imm_int; exact imm_nil; refine imm_cons ?_ ?_; refine imm_tup ?_; refine imm_cons ?_ ?_; exact imm_str; refine imm_cons ?_ ?_; exact imm_int; refine imm_cons ?_ ?_; exact imm_int; exact imm_nil; refine imm_cons ?_ ?_; refine imm_tup ?_; refine imm_cons ?_ ?_; exact imm_str; refine imm_cons ?_ ?_; exact imm_int; refine imm_cons ?_ ?_; exact imm_int; exact imm_nil; exact imm_nil)); done))) (by ((rw [sizeLine_eq]; simp; omega))) ?_); kaf_suf; allgen_close2_more; refine ds_expr ?_; refine de_appendQ ?_; bits_by_make; refine And.intro (show IsLst _ _ from ⟨_, (by rfl)⟩) ?_; k_ownIn; refine de_tup ?_; k_ownIn; refine de_str ?_; k_ownIn; refine de_add ?_; allgen_close_more; refine de_int ?_; refine AddS.int ?_; k_ownIn; refine de_add ?_; allgen_close_more; refine de_int ?_; refine AddS.int ?_; refine da_nil ?_; k_subL; k_clsL; refine da_nil ?_; (with_reducible refine ex_1v ?_); (refine AppQ.mk (by rfl) (by ((rw [sizeLine_eq]; simp; omega))) ?_); refine db_nil ?_; refine db_nil ?_; refine db_nil ?_; refine db_nil ?_))
            rw [eq']
            refine ⟨g4, rs ++ ([.op .load deep (a + rs.length + 1), .op .store (2 + deep) (a + rs.length + 2)] ++ qs ++ [.op .load (2 + deep) (a + rs.length + 2 + qs.length + 1), .op .take 0 (a + rs.length + 2 + qs.length + 2), .op .store (2 + deep) (a + rs.length + 2 + qs.length + 3)] ++ [.test (a + rs.length + 2 + qs.length + 4) (a + rs.length + 2)]), some (.int (0 + (i : Int))), some (.int (a + rs.length)), some (.int way), some (.lst (rowsD qs)), some (.int (a + rs.length + 2 + qs.length)), ok4, by rw [ei]; simp; omega, hrs.app (fun q m => ?_), ?_⟩
            · have el : (([.op .load deep (a + rs.length + 1), .op .store (2 + deep) (a + rs.length + 2)] ++ qs ++ [.op .load (2 + deep) (a + rs.length + 2 + qs.length + 1), .op .take 0 (a + rs.length + 2 + qs.length + 2), .op .store (2 + deep) (a + rs.length + 2 + qs.length + 3)] ++ [.test (a + rs.length + 2 + qs.length + 4) (a + rs.length + 2)] : List Row).length : Int) = qs.length + 6 := by simp; omega
              rw [el]
              simp only [List.cons_append, List.nil_append, List.mem_cons, List.mem_append, List.mem_singleton, List.not_mem_nil, or_false] at m
              rcases m with rfl | rfl | (m | rfl | rfl | rfl) | rfl
              · exact ⟨⟨by omega, by omega⟩, by omega, by omega⟩
              · exact ⟨⟨by omega, by omega⟩, by omega, by omega⟩
              · exact (hqs q m).mono (Int.le_refl _) (by omega)
              · exact ⟨⟨by omega, by omega⟩, by omega, by omega⟩
              · exact ⟨⟨by omega, by omega⟩, by omega, by omega⟩
              · exact ⟨⟨by omega, by omega⟩, by omega, by omega⟩
              · exact ⟨⟨by omega, by omega⟩, by omega, by omega⟩
            · simp only [← rowsD_app, ← List.append_assoc]
              rfl
          · exact ⟨g3, rs, _, _, _, _, _, ok3, by rw [ei]; omega, hrs, rfl⟩
    · rintro δ2 ⟨gi, rs, x1, x2, x3, x4, x5, oki, hl, hrs, rfl⟩
      (focus (allgen_close2_more; refine ds_ret ?_; bits_by_make; ((with_reducible refine' ex_ts ?exa ?_); (case exa => rfl)); refine ⟨_, (by rfl), ?_⟩))
      rw [rngD_len] at hl
      exact k rs gi (by rw [hc]; refine Int.le_trans hl (Int.mul_le_mul_of_nonneg_right (by omega) (by omega))) hrs oki
end
local macro_rules | `(tactic| walk_at "h:l_mixed") => `(tactic| (have : Sl n_l_mixed 0 "_law_d" := rfl; have : Sl n_l_mixed 1 "_law_program" := rfl; have : Sl n_l_mixed 2 "_law_worths" := rfl; have : Sl n_l_mixed 3 "_law_rows" := rfl; have : Sl n_l_mixed 4 "_law_left" := rfl; have : Sl n_l_mixed 5 "_law_names" := rfl; have : Sl n_l_mixed 6 "_law_numbers" := rfl; have : Sl n_l_mixed 7 "_law_found" := rfl; have : Sl n_l_mixed 8 "_law_number" := rfl; have : Sl n_l_mixed 9 "_law_row" := rfl; have : Sl n_l_mixed 10 "_law_told" := rfl; have : Sl n_l_mixed 11 "_law_k" := rfl; have : Sl n_l_mixed 12 "_law_is_worth" := rfl; have : Sl n_l_mixed 13 "_law_order" := rfl; have : Sl n_l_mixed 14 "_law_worth" := rfl; have : Nm (defScope s_l_mixed) "_law_d" .cell := rfl; have : Nm (defScope s_l_mixed) "_law_program" .local := rfl; have : Nm (defScope s_l_mixed) "_law_worths" .cell := rfl; have : Nm (defScope s_l_mixed) "_law_rows" .local := rfl; have : Nm (defScope s_l_mixed) "_law_left" .cell := rfl; have : Nm (defScope s_l_mixed) "_law_names" .cell := rfl; have : Nm (defScope s_l_mixed) "_law_numbers" .local := rfl; have : Nm (defScope s_l_mixed) "_law_found" .local := rfl; have : Nm (defScope s_l_mixed) "_law_number" .local := rfl; have : Nm (defScope s_l_mixed) "_law_row" .local := rfl; have : Nm (defScope s_l_mixed) "_law_told" .local := rfl; have : Nm (defScope s_l_mixed) "_law_k" .local := rfl; have : Nm (defScope s_l_mixed) "_law_is_worth" .local := rfl; have : Nm (defScope s_l_mixed) "_law_order" .local := rfl; have : Nm (defScope s_l_mixed) "list" .globalImplicit := rfl; have : Nm (defScope s_l_mixed) "range" .globalImplicit := rfl; have : Nm (defScope s_l_mixed) "len" .globalImplicit := rfl; have : Nm (defScope s_l_mixed) "enumerate" .globalImplicit := rfl; have : Nm (defScope s_l_mixed) "tuple" .globalImplicit := rfl; have : PlN "_law_d" := pl__law_d; have : PlN "_law_program" := pl__law_program; have : PlN "_law_worths" := pl__law_worths; have : PlN "_law_rows" := pl__law_rows; have : PlN "_law_left" := pl__law_left; have : PlN "_law_names" := pl__law_names; have : PlN "_law_numbers" := pl__law_numbers; have : PlN "_law_found" := pl__law_found; have : PlN "_law_number" := pl__law_number; have : PlN "_law_row" := pl__law_row; have : PlN "_law_told" := pl__law_told; have : PlN "_law_k" := pl__law_k; have : PlN "_law_is_worth" := pl__law_is_worth; have : PlN "_law_order" := pl__law_order; have : PlN "_law_worth" := pl__law_worth; have : PlN "list" := pl_list; have : PlN "range" := pl_range; have : PlN "len" := pl_len; have : PlN "enumerate" := pl_enumerate; have : PlN "tuple" := pl_tuple; (show DB _ _ [some _, some _, none, none, none, none, none, none, none, none, none, none, none, none, none] (defBody s_l_mixed) _)))
section
variable {P : Program} {w : World} {K : PySem.W.Frag} {mg : Str → Option Value} {base : Heap}
theorem ok_mixed {f : Addr} {fd : FuncData} (F : L2.Fun K "_law_mixed" "_law_mixed" s_l_mixed f fd) (h1 : mg "len" = none) (h2 : mg "range" = none) (h3 : mg "list" = none) (h4 : mg "enumerate" = none) (h5 : mg "tuple" = none) (G : GFn P w K mg base 1 "_law_next" 2 preNext) : FnOk P w K mg base CX0 2 f fd p_l_mixed (spD K 2 preMixed) := by
  refine okD (N := n_l_mixed) [true, false] F sc_l_mixed rfl (by decide) ?_ ?_
  · rintro ds Φ _ ⟨g, p, rfl, _⟩
    exact imm_at1 (imm_cons p.imm imm_nil)
  · rintro X f ds Φ B hF J hr hp _ ⟨g, p, rfl, ok, okp, k⟩
    walk_at "h:l_mixed"
    have hw := okp.wl
    have hr' := okp.rl
    have hr0 := okp.r0
    have ia : ∀ x ∈ p.ws.map D.int, Imm x := imm_map fun _ => imm_int
    have ib : ∀ x ∈ p.rows.map Row.d, Imm x := rows_imm
    have ea : ((p.ws.map D.int).length : Int) = p.ws.length := by simp
    have eb : ((p.rows.map Row.d).length : Int) = p.rows.length := by simp
    unfold Prog.d
    (focus (allgen_close2_more; refine ds_asgW ?_; k_updF; kaf_suf; refine dgw_tup (by with_reducible assumption) ?_; refine dgsw_cons ?_; refine dgw_name (by with_reducible assumption) (by with_reducible assumption) (by (exact Nm.stoC (by with_reducible assumption) (by assumption))) (by (exact unp_of (by with_reducible assumption) (by rfl))) ?_; refine dgsw_cons ?_; refine dgw_name (by with_reducible assumption) (by with_reducible assumption) (by (exact Nm.sto (by with_reducible assumption))) (by (exact unp_of (by with_reducible assumption) (by rfl))) ?_; refine dgsw_nil ?_; allgen_close2_more; refine ds_set (by with_reducible assumption) (by (with_reducible assumption)) (by (exact Nm.stoC (by with_reducible assumption) (by assumption))) (by (exact unp_of (by with_reducible assumption) (by rfl))) ?_; refine de_listRg (by with_reducible assumption) (by with_reducible assumption) (by (with_reducible assumption)) (by with_reducible assumption) (by (with_reducible assumption)) (by with_reducible assumption) ?_; k_caughtN0; k_ownIn; (refine de_name (by with_reducible assumption) (by with_reducible assumption) (by (with_reducible exact Nm.vis (k := .cell) (by assumption) rfl)) (by rfl) (by (((with_reducible (refine imm_tup ?_; assumption)); done))) ?_); refine da_nil ?_; refine LenQ.s (LenS.seq (by rfl) (by rfl) ?_); (with_reducible refine ex_int ?_); refine And.intro (RgOk.of_le (by omega) (by omega) (by omega) (by omega)) ?_; kaf_suf; allgen_close2_more))
    refine ds_set (by assumption) (by walk_at "nm") (by walk_at "sto") (by walk_at "pin") ?_ (hs := sw_cell (by assumption) (by with_reducible assumption))
    refine de_lc (own := [("_law_worth", 14)]) (by assumption) (by walk_at "blk") (by walk_at "pins") (di_seq ?_)
    (focus ((refine de_name (by with_reducible assumption) (by with_reducible assumption) (by (with_reducible exact Nm.vis (k := .cell) (by assumption) rfl)) (by rfl) (by (((with_reducible (refine imm_tup ?_; assumption)); done))) ?_); (refine SeqS.seq (by rfl) (by rfl) (by (((with_reducible (assumption)); done))) ?_)))
    have en : (((p.ws.map D.int).length : Int) - 0).toNat = p.ws.length := by simp
    rw [en, rngD_I]
    refine ⟨rfl, by rw [List.length_map, sizeLine_eq]; omega, fun i acc δ => ∃ (gi : Dice) (ns ls : List Int), gi.Ok ∧ acc = ns.map .int ∧ ns.length = i ∧ (ns ++ ls).Perm (rngI 0 p.ws.length) ∧ δ = [some gi.d, some (.tup [.tup (p.ws.map .int), .tup (p.rows.map Row.d)]), some (.tup (p.ws.map .int)), some (.tup (p.rows.map Row.d)), some (.lst (ls.map .int)), none, none, none, none, none, none, none, none, none, none], ⟨g, [], _, ok, rfl, rfl, List.Perm.refl _, rfl⟩, ?_, ?_⟩
    · rintro i d acc δ2 hd _ ⟨gi, ns, ls, oki, rfl, hn, hpm, rfl⟩
      have hlen := hpm.length_eq
      rw [List.length_append, rngI_len] at hlen
      have hi : i < p.ws.length := by have := (List.getElem?_eq_some_iff.mp hd).1; simpa using this
      have el : ((ls.map D.int).length : Int) = ls.length := by simp
      have el0 : (0 : Int) < ((ls.map D.int).length : Nat) := by rw [el]; omega
      have el1 : (((ls.map D.int).length : Nat) : Int) < 1073741824 := by rw [el]; omega
      obtain ⟨q, hq, rfl⟩ := map_get hd
      unfold Turn1
      (focus (k_caughtB; k_intsEnd; k_caughtB; refine dts_nil ?_; refine br_true ?_; k_caughtB; refine de_popAt ?_; kat_tups; refine And.intro (show IsLst _ _ from ⟨_, (by rfl)⟩) ?_; k_ownIn; (refine de_call (by with_reducible assumption) (by with_reducible assumption) (by with_reducible assumption) ?hroom (by (exact rfl)) ?_; (case hroom => (with_reducible assumption))); k_ownIn; kat_tups; k_ownIn; refine de_lenQ (by with_reducible assumption) (by with_reducible assumption) (by (exact rfl)) (by with_reducible assumption) ?_; k_ownIn; kat_tups; refine da_nil ?_; refine LenQ.s (LenS.seq (by rfl) (by rfl) ?_); refine da_nil ?_; k_allIn; refine ⟨_, _, rfl, (by with_reducible assumption), ?_⟩; k_offL; k_offL))
      rw [el]
      intro kk g1 k0 k1 ok1
      (focus (refine da_nil ?_))
      obtain ⟨y, hy⟩ : ∃ y, ls[kk.toNat]? = some y := ⟨_, List.getElem?_eq_getElem (by omega)⟩
      refine PopS.s rfl k0 (by omega) rfl (by rw [List.getElem?_map, hy]; rfl) imm_int ?_
      (focus (kaf_suf))
      exact ⟨g1, ns ++ [y], ls.eraseIdx kk.toNat, ok1, by simp [addO], by simp [hn], perm_pop hpm hy, by rw [map_erase]; rfl⟩
    · rintro acc δ2 ⟨g1, nms, ls, ok1, rfl, hn, hpm, rfl⟩
      rw [List.length_map] at hn
      have hls : ls = [] := by
        have := hpm.length_eq
        rw [List.length_append, rngI_len] at this
        exact List.eq_nil_of_length_eq_zero (by omega)
      subst hls
      rw [List.append_nil] at hpm
      (focus (kaf_suf; allgen_close2_more; refine ds_set (by with_reducible assumption) (by (with_reducible assumption)) (by (exact Nm.stoC (by with_reducible assumption) (by assumption))) (by (exact unp_of (by with_reducible assumption) (by rfl))) ?_; refine de_listRg2 (by with_reducible assumption) (by with_reducible assumption) (by (with_reducible assumption)) (by with_reducible assumption) (by (with_reducible assumption)) (by with_reducible assumption) ?_; refine de_int ?_; k_caughtN0; k_ownIn; k_caught0; refine da_nil ?_; refine LenQ.s (LenS.seq (by rfl) (by rfl) ?_); (with_reducible refine ex_int2 ?_); refine And.intro (RgOk.of_le (by omega) (by omega) (by omega) (by omega)) ?_; kaf_suf; allgen_close2_more; cell_call; refine de_add ?_; refine de_list ?_; k_ownIn; refine de_int ?_; refine da_nil ?_; ((with_reducible refine' ex_takes ?exa ?_); (case exa => ((apply Takes.cons Take.v; exact Takes.nil)))); refine And.intro (show _ ≤ sizeLine by (decide)) ?_))
      refine de_lc (own := [("_law_row", 9)]) (by assumption) (by walk_at "blk") (by walk_at "pins") (di_seq ?_)
      (focus (refine de_slice ?_; k_caught0; refine do_some ?_; refine de_int ?_; (with_reducible refine ex_int ?_); refine do_none ?_; (refine SlS.tup (by rfl) (by (((with_reducible (assumption)); done))) ?_); (refine SeqS.seq (by rfl) (by rfl) (by (((with_reducible (refine imm_cut ?_; assumption)); done))) ?_)))
      have en2 : (((p.rows.map Row.d).length : Int) - 1).toNat = p.rows.length - 1 := by simp
      rw [en2, rngD_I]
      refine ⟨rfl, by rw [cutA1_len, List.length_map, sizeLine_eq]; omega, fun i acc δ => ∃ (gi : Dice) (ns ls : List Int), gi.Ok ∧ acc = ns.map .int ∧ ns.length = i ∧ (ns ++ ls).Perm (rngI 1 (p.rows.length - 1)) ∧ δ = [some gi.d, some (.tup [.tup (p.ws.map .int), .tup (p.rows.map Row.d)]), some (.tup (p.ws.map .int)), some (.tup (p.rows.map Row.d)), some (.lst (ls.map .int)), some (.lst (nms.map .int)), none, none, none, none, none, none, none, none, none], ⟨g1, [], _, ok1, rfl, rfl, List.Perm.refl _, rfl⟩, ?_, ?_⟩
      · rintro i d acc δ2 hd _ ⟨gi, ns, ls, oki, rfl, hn, hpm, rfl⟩
        have hlen := hpm.length_eq
        rw [List.length_append, rngI_len] at hlen
        have hi : i < p.rows.length - 1 := by have := (List.getElem?_eq_some_iff.mp hd).1; rwa [cutA1_len, List.length_map] at this
        have el : ((ls.map D.int).length : Int) = ls.length := by simp
        have el0 : (0 : Int) < ((ls.map D.int).length : Nat) := by rw [el]; omega
        have el1 : (((ls.map D.int).length : Nat) : Int) < 1073741824 := by rw [el]; omega
        obtain ⟨r, _, rfl⟩ := List.mem_map.mp (cutA_mem (List.mem_of_getElem? hd))
        have hri := r.imm
        unfold Turn1
        (focus (k_caughtB; k_intsEnd; k_caughtB; refine dts_nil ?_; refine br_true ?_; k_caughtB; refine de_popAt ?_; kat_tups; refine And.intro (show IsLst _ _ from ⟨_, (by rfl)⟩) ?_; k_ownIn; (refine de_call (by with_reducible assumption) (by with_reducible assumption) (by with_reducible assumption) ?hroom (by (exact rfl)) ?_; (case hroom => (with_reducible assumption))); k_ownIn; kat_tups; k_ownIn; refine de_lenQ (by with_reducible assumption) (by with_reducible assumption) (by (exact rfl)) (by with_reducible assumption) ?_; k_ownIn; kat_tups; refine da_nil ?_; refine LenQ.s (LenS.seq (by rfl) (by rfl) ?_); refine da_nil ?_; k_allIn; refine ⟨_, _, rfl, (by with_reducible assumption), ?_⟩; k_offL; k_offL))
        rw [el]
        intro kk g1 k0 k1 ok1
        (focus (refine da_nil ?_))
        obtain ⟨y, hy⟩ : ∃ y, ls[kk.toNat]? = some y := ⟨_, List.getElem?_eq_getElem (by omega)⟩
        refine PopS.s rfl k0 (by omega) rfl (by rw [List.getElem?_map, hy]; rfl) imm_int ?_
        (focus (kaf_suf))
        exact ⟨g1, ns ++ [y], ls.eraseIdx kk.toNat, ok1, by simp [addO], by simp [hn], perm_pop hpm hy, by rw [map_erase]; rfl⟩
      · rintro acc δ2 ⟨g2, nus, ls, ok2, rfl, hn2, hpm2, rfl⟩
        rw [cutA1_len, List.length_map] at hn2
        have hls2 : ls = [] := by
          have := hpm2.length_eq
          rw [List.length_append, rngI_len] at this
          exact List.eq_nil_of_length_eq_zero (by omega)
        subst hls2
        rw [List.append_nil] at hpm2
        (focus ((refine AddS.lst (by rfl) (by rfl) (by (((with_reducible (refine imm_app ?_ ?_; refine imm_cons ?_ ?_; exact imm_int; exact imm_nil; exact imm_map fun _ => imm_int)); done))) (by ((rw [sizeLine_eq]; simp; omega))) ?_); kaf_suf; allgen_close2_more; cell_call; refine de_mulG ?_; refine de_list ?_; k_ownIn; refine de_non ?_; refine da_nil ?_; ((with_reducible refine' ex_takes ?exa ?_); (case exa => ((apply Takes.cons Take.v; exact Takes.nil)))); refine And.intro (show _ ≤ sizeLine by (decide)) ?_; k_caughtN0; k_ownIn; k_caught0; refine da_nil ?_; refine LenQ.s (LenS.seq (by rfl) (by rfl) ?_)))
        refine MulS.rep rfl (imm_cons imm_non imm_nil) ⟨by omega, by omega, by rw [sizeLine_eq]; simp; omega⟩ ?_
        have en3 : ((p.rows.map Row.d).length : Int).toNat = p.rows.length := by simp
        rw [en3, rep_oD]
        (focus (kaf_suf; allgen_close2_more))
        have nb : ∀ x ∈ (0 :: nus), 0 ≤ x ∧ x < p.rows.length := fun x m => by
          rcases List.mem_cons.mp m with rfl | m
          · omega
          · have := rngI_mem.mp (hpm2.mem_iff.mp m); omega
        have nl : (0 :: nus).length = p.rows.length := by simp; omega
        have nc : ∀ j : Int, 0 ≤ j → j < p.rows.length → j ∈ (0 :: nus) := fun j j0 j1 => by
          by_cases q : j = 0
          · subst q; exact List.mem_cons_self ..
          · exact List.mem_cons_of_mem _ (hpm2.mem_iff.mpr (rngI_mem.mpr (by omega)))
        have wb : ∀ x ∈ nms, 0 ≤ x ∧ x < p.ws.length := fun x m => by
          have := rngI_mem.mp (hpm.mem_iff.mp m); omega
        have wc : ∀ j : Int, 0 ≤ j → j < p.ws.length → j ∈ nms := fun j j0 j1 => hpm.mem_iff.mpr (rngI_mem.mpr (by omega))
        refine ds_for (by assumption) (di_enum (by assumption) (by assumption) (by walk_at "nm") (by assumption) ?_)
        (focus (k_ownIn; k_caught0; refine da_nil ?_; (with_reducible refine ex_one ?_); (refine SeqS.seq (by rfl) (by rfl) (by (((with_reducible (assumption)); done))) ?_)))
        refine ⟨rfl, fun i δ => ∃ (fs : List (Option Row)) (x8 x9 x10 x11 x12 : Option D), fs.length = p.rows.length ∧ (∀ i', i' < i → ∀ j, (0 :: nus)[i']? = some j → ∃ r' : Row, fs[j.toNat]? = some (some r')) ∧ (∀ (j : Nat) (r' : Row), fs[j]? = some (some r') → r'.Ok p.ws.length p.rows.length) ∧ (p.St → ∀ r' : Row, fs[0]? = some (some r') → r' ≠ .stop) ∧
          δ = [some g2.d, some (.tup [.tup (p.ws.map .int), .tup (p.rows.map Row.d)]), some (.tup (p.ws.map .int)), some (.tup (p.rows.map Row.d)), some (.lst (([] : List Int).map .int)), some (.lst (nms.map .int)), some (.lst ((0 :: nus).map .int)), some (.lst (fs.map optD)), x8, x9, x10, x11, x12, none, none], ⟨List.replicate p.rows.length none, _, _, _, _, _, by simp, (fun _ q => absurd q (Nat.not_lt_zero _)), (fun j r' e => by
            have := List.mem_of_getElem? e
            rw [List.mem_replicate] at this
            cases this.2), (fun _ r' e => by
            have := List.mem_of_getElem? e
            rw [List.mem_replicate] at this
            cases this.2), rfl⟩, ?_, ?_⟩
        · rintro i d δ2 hd ⟨fs, x8, x9, x10, x11, x12, hfl, hfs, hfo, hfz, rfl⟩
          obtain ⟨d, hd2, rfl⟩ := enD_get hd
          obtain ⟨r, hr2, rfl⟩ := map_get hd2
          have hri := r.imm
          have okr := okp.rv r (List.mem_of_getElem? hr2)
          have hir : i < p.rows.length := (List.getElem?_eq_some_iff.mp hr2).1
          have ial : ∀ x ∈ r.args.map D.int, Imm x := imm_map fun _ => imm_int
          have hal : r.args.length ≤ 2 := by have := r.wl; simp [Row.ws] at this; omega
          refine ⟨[8, 9], ?_⟩
          (focus (refine dg_tup (by with_reducible assumption) ?_; refine dgs_name ?_; fold_lay; refine dgs_name ?_; fold_lay; refine dgs_nil ?_; allgen_close2_more; cell_call; refine de_slice ?_; fold_depth; refine do_none ?_; refine do_some ?_; refine de_int ?_; (with_reducible refine ex_int ?_); (refine SlS.tup (by rfl) (by (((with_reducible (refine imm_cons ?_ ?_; exact imm_str; assumption)); done))) ?_); kaf_suf; allgen_close2_more))
          rw [cutA_first]
          refine ds_for (by assumption) (di_range2 (by assumption) (by assumption) (by walk_at "nm") (by assumption) ?_)
          (focus (k_ownIn; refine de_int ?_; k_ownIn; k_caughtN0; k_ownIn; fold_depth; refine da_nil ?_; refine LenQ.s (LenS.seq (by rfl) (by rfl) ?_); refine da_nil ?_; refine ⟨_, _, rfl, ?_⟩))
          have egl : (((D.str r.nm :: r.args.map D.int).length : Int) - 1).toNat = r.args.length := by simp
          have fw : ∀ v : Int, 0 ≤ v → v < p.ws.length → 0 ≤ nms.getD v.toNat 0 ∧ nms.getD v.toNat 0 < p.ws.length := fun v h0 h1 => wb _ (getD_mem (by omega))
          have fr : ∀ v : Int, 0 ≤ v → v < p.rows.length → 0 ≤ (0 :: nus).getD v.toNat 0 ∧ (0 :: nus).getD v.toNat 0 < p.rows.length := fun v h0 h1 => nb _ (getD_mem (by omega))
          generalize hR : r.ren (fun v => nms.getD v.toNat 0) (fun v => (0 :: nus).getD v.toNat 0) = R
          have okR : R.Ok p.ws.length p.rows.length := by rw [← hR]; exact Row.ren_ok okr fw fr
          have Rnm : R.nm = r.nm := by rw [← hR]; exact Row.ren_nm
          have Rlen : R.args.length = r.args.length := by rw [← hR]; exact Row.ren_len
          have elr : ((D.str r.nm :: r.args.map D.int).length : Int) = r.args.length + 1 := by simp
          refine ⟨⟨by omega, by omega, by omega, by omega⟩, rfl, fun k2 δ => ∃ (x11 x12 : Option D), δ = [some g2.d, some (.tup [.tup (p.ws.map .int), .tup (p.rows.map Row.d)]), some (.tup (p.ws.map .int)), some (.tup (p.rows.map Row.d)), some (.lst (([] : List Int).map .int)), some (.lst (nms.map .int)), some (.lst ((0 :: nus).map .int)), some (.lst (fs.map optD)), some (.int i), some r.d, some (.tup (.str r.nm :: (R.args.take k2).map .int)), x11, x12, none, none], ⟨_, _, rfl⟩, ?_, ?_⟩
          · rintro k2 d δ2 hd ⟨x11, x12, rfl⟩
            obtain ⟨hk, rfl⟩ := rngD_get hd
            rw [egl] at hk
            obtain ⟨q, hq⟩ : ∃ q, r.args[k2]? = some q := ⟨_, List.getElem?_eq_getElem hk⟩
            have hRq := Row.ren_at (f := fun v => nms.getD v.toNat 0) (g := fun v => (0 :: nus).getD v.toNat 0) hq
            rw [hR] at hRq
            have hql := Row.arg_lt okr hq
            have hat : atI (D.str r.nm :: r.args.map D.int) (1 + (k2 : Int)) = some (.int q) := by
              rw [atI_succ (by simpa using hk), List.getElem?_map, hq]; rfl
            have tk : ∀ v, R.args[k2]? = some v → (D.str r.nm :: (R.args.take k2).map D.int) ++ [D.int v] = D.str r.nm :: (R.args.take (k2 + 1)).map D.int := fun v hv => by
              rw [List.take_add_one, hv]; simp
            have itk : ∀ x ∈ (R.args.take k2).map D.int, Imm x := imm_map fun _ => imm_int
            have szk : ∀ v : D, (D.str r.nm :: (R.args.take k2).map D.int).length + [v].length ≤ sizeLine := fun v => by
              rw [sizeLine_eq]; simp; omega
            refine ⟨[11], ?_⟩
            by_cases hA : (k2 == 0 && r.isOp) = true
            · rw [if_pos hA] at hRq hql
              obtain ⟨hk0, hop⟩ : k2 = 0 ∧ r.isOp = true := by simpa using hA
              have e1 : decide (V.int (1 + (k2 : Int)) = V.int 1) = true := by rw [hk0]; rfl
              have hnat := atI_getD (l := nms) hql.1 (by omega)
              have hin : inV (.str r.nm) [.str "load", .str "add", .str "take", .str "store"] = true := (isOp_in r).trans hop
              (focus (fold_lay; allgen_close2_more; cell_call; refine de_and ?_; refine de_eqQ (by with_reducible assumption) ?_; allgen_close_more; refine de_int ?_; refine EqQ.l (L2s.mk (by rfl) (by rfl) ?_); refine And.intro (show scal _ _ = true by rfl) ?_; (with_reducible refine ex_bl ?_); refine br_T (by assumption) ?_; refine de_bone ?_; refine de_inQ (by with_reducible assumption) ?_; k_upd; fold_depth; refine de_int ?_; (refine GetS.seq (by rfl) (by rfl) (by exact atI_zero) (by (((with_reducible (exact imm_str)); done))) ?_); refine de_tup ?_; k_ownIn; refine de_str ?_; k_ownIn; refine de_str ?_; k_ownIn; refine de_str ?_; k_ownIn; refine de_str ?_; refine da_nil ?_; ((with_reducible refine' ex_takes ?exa ?_); (case exa => ((apply Takes.cons Take.v; apply Takes.cons Take.v; apply Takes.cons Take.v; apply Takes.cons Take.v; exact Takes.nil)))); refine And.intro (show _ ≤ sizeLine by (decide)) ?_; refine InQ.s (InS.flat (by rfl) (by rfl) (by rfl) (by rfl) (by rfl) (by rfl) (by rfl) ?_); kaf_suf; allgen_close2_more; cell_call; refine de_add ?_; k_caughtNB; refine de_tup ?_; k_ownIn; k_upd; refine de_if ?_; refine dt_val ?_; (refine de_name (by with_reducible assumption) (by with_reducible assumption) (by (with_reducible exact Nm.vis (k := .local) (by assumption) rfl)) (by rfl) (by (((with_reducible (exact imm_bl)); done))) ?_); (with_reducible refine ex_bl ?_); refine br_T (by assumption) ?_; isplit; k_upd; fold_depth; allgen_close_more))
              refine GetS.seq rfl rfl hat imm_int ?_
              skip
              refine GetS.seq rfl rfl hnat imm_int ?_
              (focus (refine da_nil ?_; ((with_reducible refine' ex_takes ?exa ?_); (case exa => ((apply Takes.cons Take.v; exact Takes.nil)))); k_clsL; (refine AddS.tup (by rfl) (by rfl) (by (((with_reducible (refine imm_app ?_ ?_; refine imm_cons ?_ ?_; exact imm_str; assumption; refine imm_cons ?_ ?_; exact imm_int; exact imm_nil)); done))) (by ((rw [sizeLine_eq]; simp; omega))) ?_); kaf_suf; refine db_nil ?_))
              refine ⟨some (.int (1 + (k2 : Int))), some (.bl true), ?_⟩
              rw [hin, ← tk _ hRq]
              rfl
            · rw [if_neg hA] at hRq hql
              have hnat := atI_getD (l := 0 :: nus) hql.1 (by omega)
              by_cases hk0 : k2 = 0
              · have hop : r.isOp = false := by
                  cases q : r.isOp with
                  | false => rfl
                  | true => exact absurd (by simp [hk0, q]) hA
                have e1 : decide (V.int (1 + (k2 : Int)) = V.int 1) = true := by rw [hk0]; rfl
                have hin : inV (.str r.nm) [.str "load", .str "add", .str "take", .str "store"] = false := (isOp_in r).trans hop
                (focus (fold_lay; allgen_close2_more; cell_call; refine de_and ?_; refine de_eqQ (by with_reducible assumption) ?_; allgen_close_more; refine de_int ?_; refine EqQ.l (L2s.mk (by rfl) (by rfl) ?_); refine And.intro (show scal _ _ = true by rfl) ?_; (with_reducible refine ex_bl ?_); refine br_T (by assumption) ?_; refine de_bone ?_; refine de_inQ (by with_reducible assumption) ?_; k_upd; fold_depth; refine de_int ?_; (refine GetS.seq (by rfl) (by rfl) (by exact atI_zero) (by (((with_reducible (exact imm_str)); done))) ?_); refine de_tup ?_; k_ownIn; refine de_str ?_; k_ownIn; refine de_str ?_; k_ownIn; refine de_str ?_; k_ownIn; refine de_str ?_; refine da_nil ?_; ((with_reducible refine' ex_takes ?exa ?_); (case exa => ((apply Takes.cons Take.v; apply Takes.cons Take.v; apply Takes.cons Take.v; apply Takes.cons Take.v; exact Takes.nil)))); refine And.intro (show _ ≤ sizeLine by (decide)) ?_; refine InQ.s (InS.flat (by rfl) (by rfl) (by rfl) (by rfl) (by rfl) (by rfl) (by rfl) ?_); kaf_suf; allgen_close2_more; cell_call; refine de_add ?_; k_caughtNB; refine de_tup ?_; k_ownIn; k_upd; refine de_if ?_; refine dt_val ?_; (refine de_name (by with_reducible assumption) (by with_reducible assumption) (by (with_reducible exact Nm.vis (k := .local) (by assumption) rfl)) (by rfl) (by (((with_reducible (exact imm_bl)); done))) ?_); (with_reducible refine ex_bl ?_); refine br_F (by assumption) ?_; bits_by_make; k_upd; fold_depth; allgen_close_more))
                refine GetS.seq rfl rfl hat imm_int ?_
                skip
                refine GetS.seq rfl rfl hnat imm_int ?_
                (focus (refine da_nil ?_; ((with_reducible refine' ex_takes ?exa ?_); (case exa => ((apply Takes.cons Take.v; exact Takes.nil)))); k_clsL; (refine AddS.tup (by rfl) (by rfl) (by (((with_reducible (refine imm_app ?_ ?_; refine imm_cons ?_ ?_; exact imm_str; assumption; refine imm_cons ?_ ?_; exact imm_int; exact imm_nil)); done))) (by ((rw [sizeLine_eq]; simp; omega))) ?_); kaf_suf; refine db_nil ?_))
                refine ⟨some (.int (1 + (k2 : Int))), some (.bl false), ?_⟩
                rw [hin, ← tk _ hRq]
                rfl
              · have e1 : decide (V.int (1 + (k2 : Int)) = V.int 1) = false := by simp; omega
                (focus (fold_lay; allgen_close2_more; cell_call; refine de_and ?_; refine de_eqQ (by with_reducible assumption) ?_; allgen_close_more; refine de_int ?_; refine EqQ.l (L2s.mk (by rfl) (by rfl) ?_); refine And.intro (show scal _ _ = true by rfl) ?_; (with_reducible refine ex_bl ?_); refine br_F (by assumption) ?_; kaf_suf; allgen_close2_more; cell_call; refine de_add ?_; k_caughtNB; refine de_tup ?_; k_ownIn; k_upd; refine de_if ?_; refine dt_val ?_; (refine de_name (by with_reducible assumption) (by with_reducible assumption) (by (with_reducible exact Nm.vis (k := .local) (by assumption) rfl)) (by rfl) (by (((with_reducible (exact imm_bl)); done))) ?_); (with_reducible refine ex_bl ?_); refine br_false ?_; bits_by_make; k_upd; fold_depth; allgen_close_more))
                refine GetS.seq rfl rfl hat imm_int ?_
                skip
                refine GetS.seq rfl rfl hnat imm_int ?_
                (focus (refine da_nil ?_; ((with_reducible refine' ex_takes ?exa ?_); (case exa => ((apply Takes.cons Take.v; exact Takes.nil)))); k_clsL; (refine AddS.tup (by rfl) (by rfl) (by (((with_reducible (refine imm_app ?_ ?_; refine imm_cons ?_ ?_; exact imm_str; assumption; refine imm_cons ?_ ?_; exact imm_int; exact imm_nil)); done))) (by ((rw [sizeLine_eq]; simp; omega))) ?_); kaf_suf; refine db_nil ?_))
                refine ⟨some (.int (1 + (k2 : Int))), some (.bl false), ?_⟩
                rw [← tk _ hRq]
                rfl
          · rintro δ2 ⟨x11, x12, rfl⟩
            rw [rngD_len, egl, ← Rlen, List.take_length]
            rw [show D.tup (D.str r.nm :: R.args.map D.int) = R.d by rw [← Rnm]; rfl]
            have hRi := R.imm
            obtain ⟨j, hj⟩ : ∃ j, (0 :: nus)[i]? = some j := ⟨_, List.getElem?_eq_getElem (by omega)⟩
            have hjb := nb j (List.mem_of_getElem? hj)
            have hatj : atI ((0 :: nus).map D.int) ((i : Nat) : Int) = some (.int j) := by
              obtain ⟨j', hj', ej', q⟩ := atI_of (l := (0 :: nus).map D.int) (i := (i : Int)) (by omega) (by simp; omega)
              have : j' = i := by omega
              subst this
              rw [q, List.getElem_map]
              have := (List.getElem?_eq_some_iff.mp hj).2
              rw [this]
            have hix : ixN (fs.map optD).length j = some j.toNat := ixN_of hjb.1 (by simp; omega)
            (focus (allgen_close2_more; refine ds_sto (by with_reducible assumption) ?_; fold_depth; kaf_suf; bits_by_make; k_upd; bits_by_make; allgen_close_more))
            refine GetS.seq rfl rfl hatj imm_int ?_
            skip
            refine StoS.lst rfl hix ?_
            rw [set_oD]
            (focus (refine db_nil ?_))
            refine ⟨fs.set j.toNat (some R), _, _, _, _, _, by simp [hfl], fun i' hi' j2 hj2 => ?_, fun j2 r' e => ?_, fun hst r' e => ?_, rfl⟩
            · by_cases q : j2.toNat = j.toNat
              · rw [q]
                exact ⟨R, by rw [List.getElem?_set_self (by omega)]⟩
              · rw [List.getElem?_set_ne (fun z => q z.symm)]
                refine hfs i' ?_ j2 hj2
                have : i' ≠ i := fun z => by
                  rw [z, hj] at hj2
                  cases hj2
                  exact q rfl
                omega
            · by_cases q : j2 = j.toNat
              · rw [q, List.getElem?_set_self (by omega)] at e
                cases e
                exact okR
              · rw [List.getElem?_set_ne (fun z => q z.symm)] at e
                exact hfo j2 r' e
            · by_cases q : j.toNat = 0
              · rw [q, List.getElem?_set_self (by omega)] at e
                cases e
                have hj0 : j = 0 := by omega
                have hi0 : i = 0 := by
                  rw [hj0] at hj
                  have nd : (0 :: nus).Nodup := by
                    rw [List.nodup_cons]
                    refine ⟨fun z => ?_, hpm2.nodup_iff.mpr (List.Pairwise.map _ (fun a b h => by omega) List.nodup_range)⟩
                    have := rngI_mem.mp (hpm2.mem_iff.mp z)
                    omega
                  have h0 : (0 :: nus)[0]? = some (0 : Int) := rfl
                  obtain ⟨hlt, e1⟩ := List.getElem?_eq_some_iff.mp hj
                  obtain ⟨hlt0, e2⟩ := List.getElem?_eq_some_iff.mp h0
                  exact (List.getElem_inj nd).mp (e1.trans e2.symm)
                rw [hi0] at hr2
                intro z
                refine hst (hr2.trans ?_)
                congr 1
                rw [← hR] at z
                cases r <;> first | rfl | cases z
              · rw [List.getElem?_set_ne q] at e
                exact hfz hst r' e
        · rintro δ2 ⟨fs, x8, x9, x10, x11, x12, hfl, hfs, hfo, hfz, rfl⟩
          rw [enD_len, List.length_map] at hfs
          (focus (allgen_close2_more))
          refine ds_setLc (own := [("_law_worth", 14)]) (by assumption) (by walk_at "nm") (by walk_at "nm") (by walk_at "pin") (by walk_at "swap") (by walk_at "blk") (by walk_at "pins") (di_range (by assumption) (by assumption) (by walk_at "nm") (by assumption) ?_)
          (focus (k_ownIn; k_caughtN0; k_ownIn; (refine de_name (by with_reducible assumption) (by with_reducible assumption) (by (with_reducible exact Nm.vis (k := .cell) (by assumption) rfl)) (by rfl) (by (((with_reducible (refine imm_tup ?_; assumption)); done))) ?_); refine da_nil ?_; refine LenQ.s (LenS.seq (by rfl) (by rfl) ?_); refine da_nil ?_; refine ⟨_, (by rfl), ?_⟩; kas_types))
          have iof : ∀ x ∈ fs.map optD, Imm x := oD_imm
          have enw : ((p.ws.map D.int).length : Int).toNat = p.ws.length := by simp
          refine lc_mapA (rngI 0 p.ws.length) D.int (fun w => D.int (nms.idxOf w : Nat)) (by rw [← rngD_I, enw]) rfl (by rw [rngI_len, sizeLine_eq]; omega) (fun i w hw2 => ?_) ?_
          · have hwm := rngI_mem.mp (List.mem_of_getElem? hw2)
            unfold Turn1
            (focus (k_caughtB; k_intsEnd; k_caughtB; refine dts_nil ?_; refine br_true ?_; k_caughtB; refine de_index ?_; kat_tups; refine And.intro (show IsLst _ _ from ⟨_, (by rfl)⟩) ?_; k_ownIn; k_places; refine da_nil ?_))
            refine IndexS.mk rfl rfl (wc w (by omega) (by omega)) ?_
            (focus (kaf_suf))
            exact ⟨rfl, rfl⟩
          · (focus (kaf_suf; allgen_close2_more; refine ds_ret ?_; refine de_tup ?_; k_ownIn; refine de_tuplec (by with_reducible assumption) (by with_reducible assumption) (by (with_reducible assumption)) (by with_reducible assumption) ?_; k_ownIn))
            refine de_lcS (own := [("_law_worth", 14)]) (by assumption) (by walk_at "blk") (by walk_at "pins") (di_seq ?_)
            (focus (bits_by_make; (refine SeqS.seq (by rfl) (by rfl) (by (((with_reducible (exact imm_map fun _ => imm_int)); done))) ?_)))
            have hidx : ∀ w ∈ rngI 0 p.ws.length, nms.idxOf w < p.ws.length := fun w m => by
              have hwm := rngI_mem.mp m
              have := List.idxOf_lt_length_of_mem (wc w (by omega) (by omega))
              omega
            refine lc_mapAS (rngI 0 p.ws.length) (fun w => D.int (nms.idxOf w : Nat)) (fun w => D.int (p.ws.getD (nms.idxOf w) 0)) 13 rfl rfl (by decide) (by rw [rngI_len, sizeLine_eq]; omega) (fun i w hw2 => ?_) ?_
            · have hix2 : atI (p.ws.map D.int) ((nms.idxOf w : Nat) : Int) = some (.int (p.ws.getD (nms.idxOf w) 0)) := by
                have := atI_getD (l := p.ws) (a := (nms.idxOf w : Nat)) (by omega) (by have := hidx w (List.mem_of_getElem? hw2); omega)
                simpa using this
              unfold Turn1
              (focus (k_caughtB; k_intsEnd; k_caughtB; refine dts_nil ?_; refine br_true ?_; k_caughtB; k_upd; (refine de_name (by with_reducible assumption) (by with_reducible assumption) (by (exact Nm.vis (k := .cell) (by exact rfl) rfl)) (by rfl) (by (((with_reducible (refine imm_tup ?_; assumption)); done))) ?_); k_places))
              refine GetS.seq rfl rfl hix2 imm_int ?_
              (focus (kaf_suf))
              exact ⟨rfl, rfl⟩
            · (focus (refine da_nil ?_; (refine SeqC.mk (by rfl) (by rfl) (by (((with_reducible (exact imm_map fun _ => imm_int)); done))) ?_); k_ownIn; refine de_tuplec (by with_reducible assumption) (by with_reducible assumption) (by (with_reducible assumption)) (by with_reducible assumption) ?_; k_ownIn; bits_by_make; refine da_nil ?_; (refine SeqC.mk (by rfl) (by rfl) (by (((with_reducible (assumption)); done))) ?_); refine da_nil ?_; kaf_pre; k_clsL; kaf_suf; refine ⟨_, (by rfl), ?_⟩))
              obtain ⟨rs, hrs⟩ := all_some fs (fun j hj => by
                obtain ⟨i', hi', e⟩ := List.getElem_of_mem (nc (j : Int) (by omega) (by omega))
                obtain ⟨r', hr3⟩ := hfs i' (by omega) (j : Int) (by rw [List.getElem?_eq_getElem hi', e])
                exact ⟨r', by simpa using hr3⟩)
              subst hrs
              rw [List.length_map] at hfl
              have e1 : (rs.map some).map optD = rs.map Row.d := by rw [List.map_map]; rfl
              rw [e1]
              have e2 : (rngI 0 p.ws.length).map (fun w => D.int (p.ws.getD (nms.idxOf w) 0)) = ((rngI 0 p.ws.length).map (fun w => p.ws.getD (nms.idxOf w) 0)).map D.int := by rw [List.map_map]; rfl
              rw [e2]
              refine k ⟨(rngI 0 p.ws.length).map (fun w => p.ws.getD (nms.idxOf w) 0), rs⟩ g2 ⟨?_, ?_, ?_, ?_, ?_⟩ ok2 (fun hst e => hfz hst .stop (by rw [List.getElem?_map, show rs[0]? = some .stop from e]; rfl) rfl)
              · show (List.map _ _).length ≤ 8
                rw [List.length_map, rngI_len]; exact hw
              · intro x m
                obtain ⟨w', m', rfl⟩ := List.mem_map.mp m
                exact okp.wv _ (getD_mem (hidx w' m'))
              · show 1 ≤ rs.length
                omega
              · show rs.length ≤ 40
                omega
              · intro r m
                obtain ⟨j, hj, e⟩ := List.getElem_of_mem m
                have := hfo j r (by rw [List.getElem?_map, List.getElem?_eq_getElem hj, e]; rfl)
                show r.Ok (List.length (List.map _ _) : Nat) rs.length
                rw [List.length_map, rngI_len, hfl]
                exact this
end
local macro_rules | `(tactic| walk_at "h:l_stopping") => `(tactic| (have : Sl n_l_stopping 0 "_law_d" := rfl; have : Sl n_l_stopping 1 "_law_deep" := rfl; have : Sl n_l_stopping 2 "_law_worths" := rfl; have : Sl n_l_stopping 3 "_law_rows" := rfl; have : Sl n_l_stopping 4 "_law_program" := rfl; have : Sl n_l_stopping 5 "_law_k" := rfl; have : Nm (defScope s_l_stopping) "_law_d" .cell := rfl; have : Nm (defScope s_l_stopping) "_law_deep" .local := rfl; have : Nm (defScope s_l_stopping) "_law_worths" .local := rfl; have : Nm (defScope s_l_stopping) "_law_rows" .local := rfl; have : Nm (defScope s_l_stopping) "_law_program" .local := rfl; have : Nm (defScope s_l_stopping) "_law_next" .globalImplicit := rfl; have : Nm (defScope s_l_stopping) "tuple" .globalImplicit := rfl; have : Nm (defScope s_l_stopping) "range" .globalImplicit := rfl; have : Nm (defScope s_l_stopping) "_law_body" .globalImplicit := rfl; have : Nm (defScope s_l_stopping) "len" .globalImplicit := rfl; have : Nm (defScope s_l_stopping) "_law_straight" .globalImplicit := rfl; have : Nm (defScope s_l_stopping) "_law_mixed" .globalImplicit := rfl; have : PlN "_law_d" := pl__law_d; have : PlN "_law_deep" := pl__law_deep; have : PlN "_law_worths" := pl__law_worths; have : PlN "_law_rows" := pl__law_rows; have : PlN "_law_program" := pl__law_program; have : PlN "_law_k" := pl__law_k; have : PlN "_law_next" := pl__law_next; have : PlN "tuple" := pl_tuple; have : PlN "range" := pl_range; have : PlN "_law_body" := pl__law_body; have : PlN "len" := pl_len; have : PlN "_law_straight" := pl__law_straight; have : PlN "_law_mixed" := pl__law_mixed; (show DB _ _ [some _, some _, none, none, none, none] (defBody s_l_stopping) _)))
section
variable {P : Program} {w : World} {K : PySem.W.Frag} {mg : Str → Option Value} {base : Heap}
theorem ok_stopping {f : Addr} {fd : FuncData} (F : L2.Fun K "_law_stopping" "_law_stopping" s_l_stopping f fd) (h1 : mg "len" = none) (h2 : mg "range" = none) (h5 : mg "tuple" = none) (G : GFn P w K mg base 1 "_law_next" 2 preNext) (G2 : GFn P w K mg base 2 "_law_straight" 2 preStraight) (G4 : GFn P w K mg base 6 "_law_body" 3 (preBody 2)) (G5 : GFn P w K mg base 2 "_law_mixed" 2 preMixed) : FnOk P w K mg base CX0 7 f fd p_l_stopping (spD K 2 preStopping) := by
  refine okD (N := n_l_stopping) [true, false] F sc_l_stopping rfl (by decide) ?_ ?_
  · rintro ds Φ _ ⟨g, deep, rfl, _⟩
    exact imm_at1 (imm_cons imm_int imm_nil)
  · rintro X f ds Φ B hF J hr hp _ ⟨g, deep, rfl, ok, d0, d1, k⟩
    walk_at "h:l_stopping"
    (focus (allgen_close2_more; cell_call; refine de_tup ?_; k_ownIn; refine de_int ?_; k_ownIn; refine de_add ?_; refine de_int ?_; got_up; k_ownIn; isplit; k_ownIn; refine de_int ?_; refine da_nil ?_; k_allIn; refine ⟨_, _, rfl, ?_⟩; kba_ints; kas_types; k_offL))
    intro v1 g1 v10 v11 ok1
    (focus (refine AddS.int ?_; k_ownIn; refine de_add ?_; refine de_int ?_; got_up; k_ownIn; isplit; k_ownIn; refine de_int ?_; refine da_nil ?_; k_allIn; refine ⟨_, _, rfl, ?_⟩; kba_ints; kas_types; k_offL))
    intro v2 g2 v20 v21 ok2
    (focus (refine AddS.int ?_; k_ownIn; refine de_int ?_; k_ownIn; refine de_int ?_; refine da_nil ?_; ((with_reducible refine' ex_takes ?exa ?_); (case exa => ((apply Takes.cons Take.v; apply Takes.cons Take.v; apply Takes.cons Take.v; apply Takes.cons Take.v; apply Takes.cons Take.v; exact Takes.nil)))); k_clsL; kaf_suf; allgen_close2_more; cell_call; refine de_add ?_; (refine de_name (by with_reducible assumption) (by with_reducible assumption) (by (with_reducible exact Nm.vis (k := .local) (by assumption) rfl)) (by rfl) (by (((with_reducible (refine imm_tup ?_; refine imm_cons ?_ ?_; exact imm_int; refine imm_cons ?_ ?_; exact imm_int; refine imm_cons ?_ ?_; exact imm_int; refine imm_cons ?_ ?_; exact imm_int; refine imm_cons ?_ ?_; exact imm_int; exact imm_nil)); done))) ?_); refine de_tuplec (by with_reducible assumption) (by with_reducible assumption) (by (with_reducible assumption)) (by with_reducible assumption) ?_; k_ownIn))
    refine de_lc (own := [("_law_k", 5)]) (by assumption) (by walk_at "blk") (by walk_at "pins") (di_range (by assumption) (by assumption) (by walk_at "nm") (by assumption) ?_)
    (focus (k_ownIn; refine de_int ?_; refine da_nil ?_; refine ⟨_, (by rfl), ?_⟩; kas_types))
    refine ⟨rfl, by decide, fun i acc δ => ∃ (gi : Dice) (ns : List Int), gi.Ok ∧ acc = ns.map .int ∧ ns.length = i ∧ (∀ x ∈ ns, -3 ≤ x ∧ x ≤ 3) ∧ δ = [some gi.d, some (.int deep), some (D.tup [D.int 1, D.int (1 + v1), D.int (1 + v2), D.int 0, D.int 0]), none, none, none], ⟨g2, [], ok2, rfl, rfl, by simp, rfl⟩, ?_, ?_⟩
    · rintro i d acc δ2 hd _ ⟨gi, ns, oki, rfl, hn, hb, rfl⟩
      obtain ⟨hi, rfl⟩ := rngD_get hd
      unfold Turn1
      (focus (k_caughtB; k_intsEnd; k_caughtB; refine dts_nil ?_; refine br_true ?_; k_caughtB; refine de_sub ?_; (refine de_call (by with_reducible assumption) (by with_reducible assumption) (by with_reducible assumption) ?hroom (by (exact rfl)) ?_; (case hroom => (exact Room.mono (by assumption) (by decide)))); k_ownIn; kat_tups; k_ownIn; refine de_int ?_; refine da_nil ?_; k_allIn; refine ⟨_, _, rfl, ?_⟩; kba_ints; kas_types; k_offL))
      intro x g3 x0 x1 ok3
      (focus (refine de_int ?_; refine I2.mk ?_; kaf_suf))
      exact ⟨g3, ns ++ [x - 3], ok3, by simp [addO], by simp [hn], fun y m => by
        rcases List.mem_append.mp m with m | m
        · exact hb y m
        · rw [List.mem_singleton.mp m]; omega, rfl⟩
    · rintro acc δ2 ⟨g3, ns, ok3, rfl, hn, hb, rfl⟩
      have hn3 : ns.length = 3 := hn
      have ins : ∀ x ∈ ns.map D.int, Imm x := imm_map fun _ => imm_int
      (focus (refine da_nil ?_; (refine SeqC.mk (by rfl) (by rfl) (by (((with_reducible (assumption)); done))) ?_); (refine AddS.tup (by rfl) (by rfl) (by (((with_reducible (refine imm_app ?_ ?_; refine imm_cons ?_ ?_; exact imm_int; refine imm_cons ?_ ?_; exact imm_int; refine imm_cons ?_ ?_; exact imm_int; refine imm_cons ?_ ?_; exact imm_int; refine imm_cons ?_ ?_; exact imm_int; exact imm_nil; assumption)); done))) (by ((rw [sizeLine_eq]; simp; omega))) ?_); kaf_suf; allgen_close2_more; cell_call; k_memK; k_ownIn; isplit; k_ownIn; refine de_int ?_; k_ownIn; allgen_close_more; refine da_nil ?_; k_allIn))
      refine ⟨g3, _, _, rfl, ok3, by decide, ?_, by omega, by omega, ?_⟩
      · unfold bnd; split <;> (try split) <;> omega
      intro rs g4 hrl hrs ok4
      have irs : ∀ x ∈ rowsD rs, Imm x := rowsD_imm
      have el : ∀ rs : List Row, ((rowsD rs).length : Int) = rs.length := fun rs => by simp [rowsD]
      (focus (kaf_suf; allgen_close2_more))
      refine ds_while (by assumption) (fun m δ => ∃ (gi : Dice) (rs : List Row), gi.Ok ∧ (rs.length : Int) ≤ 234 ∧ (m = 0 → rs.length ≤ 39) ∧ RowsOk 0 rs ∧ δ = [some gi.d, some (.int deep), some (.tup (([1, 1 + v1, 1 + v2, 0, 0] ++ ns : List Int).map .int)), some (.lst (rowsD rs)), none, none]) 1 ⟨g4, rs, ok4, by revert hrl; unfold bnd; split <;> (try split) <;> omega, by simp, hrs, rfl⟩ ?_
      rintro m δ2 ⟨g5, rs, ok5, hr5, hm5, hrs5, rfl⟩
      have el5 := el rs
      have iw : ∀ x ∈ ([1, 1 + v1, 1 + v2, 0, 0] ++ ns : List Int).map D.int, Imm x := imm_map fun _ => imm_int
      have irs : ∀ x ∈ rowsD rs, Imm x := rowsD_imm
      have hsp : Shp 6 (.lst (rowsD rs)) := rowsD_shp
      (focus (refine dt_gt ?_; k_caughtN0; k_ownIn; bits_by_make; refine da_nil ?_; refine LenQ.s (LenS.seq (by rfl) (by rfl) ?_); refine de_int ?_; refine I2.mk ?_; refine br_dec (fun _ => ?_) (fun _ => ?_); allgen_close2_more; cell_call; k_memK; k_ownIn; isplit; k_ownIn; refine de_int ?_; k_ownIn; refine de_int ?_; refine da_nil ?_; k_allIn; (rotate_left); allgen_close2_more; refine ds_if ?_; ((refine g_eqLst ?_); refine dt_eqD (by with_reducible assumption) ?_); bits_by_make; refine de_list ?_; refine da_nil ?_; ((with_reducible refine' ex_takes ?exa ?_); (case exa => ((exact Takes.nil)))); refine And.intro (show _ ≤ sizeLine by (decide)) ?_; refine eqs_nil (n := 6) (by rfl) (by assumption) (by decide) ?_; (rotate_left)))
      · refine ⟨g5, _, _, rfl, ok5, by decide, by decide, by decide, by decide, ?_⟩
        intro ss g6 hsl hss ok6
        (focus (kaf_suf; refine db_nil ?_))
        have hs18 : (ss.length : Int) ≤ 18 := hsl
        refine ⟨0, by omega, g6, ss, ok6, by omega, fun _ => by omega, hss, rfl⟩
      · have hm39 : rs.length ≤ 39 := by
          rename_i h
          simp at h
          omega
        have hw8 : ([1, 1 + v1, 1 + v2, 0, 0] ++ ns : List Int).length = 8 := by simp [hn3]
        have hwb : ∀ x ∈ ([1, 1 + v1, 1 + v2, 0, 0] ++ ns : List Int), -1000000 ≤ x ∧ x ≤ 1000000 := fun x m => by
          rcases List.mem_append.mp m with m | m
          · simp at m; omega
          · have := hb x m; omega
        have sz0 : ∀ ss : List Row, ss.length ≤ 39 → (rowsD ss).length + [D.tup [D.str "stop"]].length ≤ sizeLine := fun ss h => by rw [sizeLine_eq]; simp [rowsD]; omega
        constructor
        · intro he
          (focus (allgen_close2_more; cell_call; refine de_list ?_; k_ownIn; got_up; k_ownIn; isplit; k_ownIn; refine de_int ?_; refine da_nil ?_; k_allIn; refine ⟨_, _, rfl, (by with_reducible assumption), ?_⟩; kas_types; kba_ints))
          intro r g6 hr6 hli ok6
          have hri := r.imm
          (focus (refine da_nil ?_; ((with_reducible refine' ex_takes ?exa ?_); (case exa => ((apply Takes.cons Take.v; exact Takes.nil)))); k_clsL; kaf_suf; refine db_nil ?_; allgen_close2_more; cell_call; refine de_tup ?_; k_ownIn; k_caught0; k_ownIn; refine de_add ?_; refine de_tuplec (by with_reducible assumption) (by with_reducible assumption) (by (with_reducible assumption)) (by with_reducible assumption) ?_; k_ownIn; bits_by_make; refine da_nil ?_; (refine SeqC.mk (by rfl) (by rfl) (by (((with_reducible (refine imm_cons ?_ ?_; assumption; exact imm_nil)); done))) ?_); refine de_tup ?_; k_ownIn; refine de_tup ?_; k_ownIn; refine de_str ?_; refine da_nil ?_; ((with_reducible refine' ex_takes ?exa ?_); (case exa => ((apply Takes.cons Take.v; exact Takes.nil)))); refine And.intro (show _ ≤ sizeLine by (decide)) ?_; refine da_nil ?_; ((with_reducible refine' ex_takes ?exa ?_); (case exa => ((apply Takes.cons Take.v; exact Takes.nil)))); refine And.intro (show _ ≤ sizeLine by (decide)) ?_; (refine AddS.tup (by rfl) (by rfl) (by (((with_reducible (refine imm_app ?_ ?_; refine imm_cons ?_ ?_; assumption; exact imm_nil; refine imm_cons ?_ ?_; refine imm_tup ?_; refine imm_cons ?_ ?_; exact imm_str; exact imm_nil; exact imm_nil)); done))) (by ((rw [sizeLine_eq]; simp; done))) ?_); refine da_nil ?_; kaf_pre; k_clsL; kaf_suf; allgen_close2_more; refine ds_ret ?_; refine de_if ?_; refine dt_eqQ (by with_reducible assumption) ?_; got_up; k_ownIn; isplit; k_ownIn; refine de_int ?_; refine da_nil ?_; k_allIn; refine ⟨_, _, rfl, ?_⟩; kba_ints; kas_types; k_offL))
          rw [show ([r.d] : List D) = rowsD [r] from rfl, stopQ_d]
          have okq : Prog.Ok ⟨[1, 1 + v1, 1 + v2, 0, 0] ++ ns, [r] ++ [.stop]⟩ := stopQ hw8 hwb (by simp) (fun q m => by rw [List.mem_singleton.mp m]; exact Row.okL hli hr6)
          have hstp : Prog.St ⟨[1, 1 + v1, 1 + v2, 0, 0] ++ ns, [r] ++ [.stop]⟩ := stopQ_st (fun q m => by rw [List.mem_singleton.mp m]; exact Row.okL hli hr6) (by simp)
          have iqd := Prog.imm ⟨[1, 1 + v1, 1 + v2, 0, 0] ++ ns, [r] ++ [.stop]⟩
          intro t g7 t0 t1 ok7
          (focus (refine de_int ?_; refine EqQ.l (L2s.mk (by rfl) (by rfl) ?_); refine And.intro (show scal _ _ = true by rfl) ?_; refine br_int (fun _ => ?_) (fun _ => ?_); got_up; k_ownIn; isplit; k_ownIn; fold_depth; refine da_nil ?_; k_allIn; refine ⟨_, _, rfl, (by with_reducible assumption), ?_⟩; k_offL; (rotate_left); fold_depth; kaf_suf; refine ⟨_, (by rfl), ?_⟩; (rotate_left)))
          · intro q' g8 okq' ok8 hst'
            (focus (kaf_suf; refine ⟨_, (by rfl), ?_⟩))
            exact k q' g8 okq' ok8 (hst' hstp)
          · exact k _ g7 okq ok7 hstp
        · intro he
          have hstp : Prog.St ⟨[1, 1 + v1, 1 + v2, 0, 0] ++ ns, rs ++ [.stop]⟩ := stopQ_st hrs5 (fun z => by rw [z] at he; simp [rowsD] at he)
          (focus (refine db_nil ?_; allgen_close2_more; cell_call; refine de_tup ?_; k_ownIn; k_caught0; k_ownIn; refine de_add ?_; refine de_tuplec (by with_reducible assumption) (by with_reducible assumption) (by (with_reducible assumption)) (by with_reducible assumption) ?_; k_ownIn; bits_by_make; refine da_nil ?_; (refine SeqC.mk (by rfl) (by rfl) (by (((with_reducible (assumption)); done))) ?_); refine de_tup ?_; k_ownIn; refine de_tup ?_; k_ownIn; refine de_str ?_; refine da_nil ?_; ((with_reducible refine' ex_takes ?exa ?_); (case exa => ((apply Takes.cons Take.v; exact Takes.nil)))); refine And.intro (show _ ≤ sizeLine by (decide)) ?_; refine da_nil ?_; ((with_reducible refine' ex_takes ?exa ?_); (case exa => ((apply Takes.cons Take.v; exact Takes.nil)))); refine And.intro (show _ ≤ sizeLine by (decide)) ?_; (refine AddS.tup (by rfl) (by rfl) (by (((with_reducible (refine imm_app ?_ ?_; assumption; refine imm_cons ?_ ?_; refine imm_tup ?_; refine imm_cons ?_ ?_; exact imm_str; exact imm_nil; exact imm_nil)); done))) (by ((rw [sizeLine_eq]; simp; omega))) ?_); refine da_nil ?_; kaf_pre; k_clsL; kaf_suf; allgen_close2_more; refine ds_ret ?_; refine de_if ?_; refine dt_eqQ (by with_reducible assumption) ?_; got_up; k_ownIn; isplit; k_ownIn; refine de_int ?_; refine da_nil ?_; k_allIn; refine ⟨_, _, rfl, ?_⟩; kba_ints; kas_types; k_offL))
          rw [stopQ_d]
          have okq : Prog.Ok ⟨[1, 1 + v1, 1 + v2, 0, 0] ++ ns, rs ++ [.stop]⟩ := stopQ hw8 hwb hm39 hrs5
          have iqd := Prog.imm ⟨[1, 1 + v1, 1 + v2, 0, 0] ++ ns, rs ++ [.stop]⟩
          intro t g7 t0 t1 ok7
          (focus (refine de_int ?_; refine EqQ.l (L2s.mk (by rfl) (by rfl) ?_); refine And.intro (show scal _ _ = true by rfl) ?_; refine br_int (fun _ => ?_) (fun _ => ?_); got_up; k_ownIn; isplit; k_ownIn; fold_depth; refine da_nil ?_; k_allIn; refine ⟨_, _, rfl, (by with_reducible assumption), ?_⟩; k_offL; (rotate_left); fold_depth; kaf_suf; refine ⟨_, (by rfl), ?_⟩; (rotate_left)))
          · intro q' g8 okq' ok8 hst'
            (focus (kaf_suf; refine ⟨_, (by rfl), ?_⟩))
            exact k q' g8 okq' ok8 (hst' hstp)
          · exact k _ g7 okq ok7 hstp
end
local macro_rules | `(tactic| walk_at "h:l_any") => `(tactic| (have : Sl n_l_any 0 "_law_d" := rfl; have : Sl n_l_any 1 "_law_many" := rfl; have : Sl n_l_any 2 "_law_rows" := rfl; have : Sl n_l_any 3 "_law_worths" := rfl; have : Sl n_l_any 4 "_law_size" := rfl; have : Sl n_l_any 5 "_law_number" := rfl; have : Sl n_l_any 6 "_law_near" := rfl; have : Sl n_l_any 7 "_law_way" := rfl; have : Sl n_l_any 8 "_law_k" := rfl; have : Nm (defScope s_l_any) "_law_d" .cell := rfl; have : Nm (defScope s_l_any) "_law_many" .local := rfl; have : Nm (defScope s_l_any) "_law_rows" .local := rfl; have : Nm (defScope s_l_any) "_law_worths" .local := rfl; have : Nm (defScope s_l_any) "_law_size" .local := rfl; have : Nm (defScope s_l_any) "_law_number" .local := rfl; have : Nm (defScope s_l_any) "_law_near" .local := rfl; have : Nm (defScope s_l_any) "_law_way" .local := rfl; have : Nm (defScope s_l_any) "_law_next" .globalImplicit := rfl; have : Nm (defScope s_l_any) "_law_stopping" .globalImplicit := rfl; have : Nm (defScope s_l_any) "tuple" .globalImplicit := rfl; have : Nm (defScope s_l_any) "range" .globalImplicit := rfl; have : Nm (defScope s_l_any) "int" .globalImplicit := rfl; have : PlN "_law_d" := pl__law_d; have : PlN "_law_many" := pl__law_many; have : PlN "_law_rows" := pl__law_rows; have : PlN "_law_worths" := pl__law_worths; have : PlN "_law_size" := pl__law_size; have : PlN "_law_number" := pl__law_number; have : PlN "_law_near" := pl__law_near; have : PlN "_law_way" := pl__law_way; have : PlN "_law_k" := pl__law_k; have : PlN "_law_next" := pl__law_next; have : PlN "_law_stopping" := pl__law_stopping; have : PlN "tuple" := pl_tuple; have : PlN "range" := pl_range; have : PlN "int" := pl_int; (show DB _ _ [some _, none, none, none, none, none, none, none, none] (defBody s_l_any) _)))
section
variable {P : Program} {w : World} {K : PySem.W.Frag} {mg : Str → Option Value} {base : Heap}
theorem ok_any {f : Addr} {fd : FuncData} (F : L2.Fun K "_law_any" "_law_any" s_l_any f fd) (h1 : mg "int" = none) (h2 : mg "range" = none) (h5 : mg "tuple" = none) (G : GFn P w K mg base 1 "_law_next" 2 preNext) (G2 : GFn P w K mg base 7 "_law_stopping" 2 preStopping) : FnOk P w K mg base CX0 8 f fd p_l_any (spD K 1 preAny) := by
  refine okD (N := n_l_any) [true] F sc_l_any rfl (by decide) ?_ ?_
  · rintro ds Φ _ ⟨g, rfl, _⟩
    exact imm_at1 imm_nil
  · rintro X f ds Φ B hF J hr hp _ ⟨g, rfl, ok, k⟩
    walk_at "h:l_any"
    (focus (allgen_close2_more; refine ds_if ?_; refine dt_gt ?_; got_up; k_ownIn; isplit; k_ownIn; refine de_int ?_; refine da_nil ?_; k_allIn; refine ⟨_, _, rfl, ?_⟩; kba_ints; kas_types; k_offL))
    intro v1 g1 v10 v11 ok1
    (focus (refine de_int ?_; refine I2.mk ?_; refine br_dec (fun _ => ?_) (fun _ => ?_); allgen_close2_more; refine ds_ret ?_; k_memK; k_ownIn; isplit; k_ownIn; got_up; k_ownIn; isplit; k_ownIn; refine de_int ?_; refine da_nil ?_; k_allIn; refine ⟨_, _, rfl, ?_⟩; kba_ints; kas_types; k_offL; (rotate_left); refine db_nil ?_; allgen_close2_more; (rotate_left)))
    · intro v2 g2 v20 v21 ok2
      (focus (refine da_nil ?_; k_allIn; refine ⟨_, _, rfl, (by with_reducible assumption), ?_⟩; k_offL; kas_types))
      intro q g3 okq ok3 _
      (focus (kaf_suf; refine ⟨_, (by rfl), ?_⟩))
      exact k q g3 okq ok3
    · refine ds_par (i := 1) (j := 2) (by assumption) (by walk_at "nm") (by walk_at "nm") (by rfl) (by walk_at "nm") (by walk_at "nm") (by walk_at "pin") (by walk_at "pin") ?_ (sw_par (by assumption) (by rfl) (by walk_at "nm") (by walk_at "nm") (by rfl) (by rfl) (by rfl) (by rfl) (by rfl))
      (focus (k_ownIn; got_up; k_ownIn; isplit; k_ownIn; refine de_int ?_; refine da_nil ?_; k_allIn; refine ⟨_, _, rfl, ?_⟩; kba_ints; kas_types; k_offL))
      intro m g2 m0 m1 ok2
      (focus (k_ownIn; refine de_list ?_; refine da_nil ?_; ((with_reducible refine' ex_takes ?exa ?_); (case exa => ((exact Takes.nil)))); refine And.intro (show _ ≤ sizeLine by (decide)) ?_; refine da_nil ?_; refine ⟨_, _, _, _, _, _, rfl, Take.v, Take.v, ?_⟩; allgen_close2_more; cell_call; refine de_tuplec (by with_reducible assumption) (by with_reducible assumption) (by (with_reducible assumption)) (by with_reducible assumption) ?_; k_ownIn))
      refine de_lc (own := [("_law_k", 8)]) (by assumption) (by walk_at "blk") (by walk_at "pins") (di_range (by assumption) (by assumption) (by walk_at "nm") (by assumption) ?_)
      (focus (k_ownIn; allgen_close_more; refine da_nil ?_; refine ⟨_, (by rfl), ?_⟩; kas_types))
      refine ⟨rfl, by rw [rngD_len, sizeLine_eq]; omega, fun i acc δ => ∃ (gi : Dice) (ns : List Int), gi.Ok ∧ acc = ns.map .int ∧ ns.length = i ∧ (∀ x ∈ ns, -1000000 ≤ x ∧ x ≤ 1000000) ∧ δ = [some gi.d, some (.int m), some (.lst []), none, none, none, none, none, none], ⟨g2, [], ok2, rfl, rfl, by simp, rfl⟩, ?_, ?_⟩
      · rintro i d acc δ2 hd _ ⟨gi, ns, oki, rfl, hn, hb, rfl⟩
        obtain ⟨hi, rfl⟩ := rngD_get hd
        unfold Turn1
        (focus (k_caughtB; k_intsEnd; k_caughtB; refine dts_nil ?_; refine br_true ?_; k_caughtB; k_upd; refine de_list ?_; k_ownIn; refine de_sub ?_; (refine de_call (by with_reducible assumption) (by with_reducible assumption) (by with_reducible assumption) ?hroom (by (exact rfl)) ?_; (case hroom => (exact Room.mono (by assumption) (by decide)))); k_ownIn; kat_tups; k_ownIn; refine de_int ?_; refine da_nil ?_; k_allIn; refine ⟨_, _, rfl, ?_⟩; kba_ints; kas_types; k_offL))
        intro x g3 x0 x1 ok3
        (focus (refine de_int ?_; refine I2.mk ?_; k_ownIn; refine de_sub ?_; (refine de_call (by with_reducible assumption) (by with_reducible assumption) (by with_reducible assumption) ?hroom (by (exact rfl)) ?_; (case hroom => (exact Room.mono (by assumption) (by decide)))); k_ownIn; kat_tups; k_ownIn; refine de_int ?_; refine da_nil ?_; k_allIn; refine ⟨_, _, rfl, ?_⟩; kba_ints; kas_types; k_offL))
        intro y g4 y0 y1 ok4
        (focus (refine de_pow ?_; refine de_int ?_; refine de_int ?_; refine I2.mk ?_; refine And.intro ⟨by decide, by decide, by decide⟩ ?_; refine I2.mk ?_; refine da_nil ?_; kaf_pre; k_clsL; (refine de_call (by with_reducible assumption) (by with_reducible assumption) (by with_reducible assumption) ?hroom (by (exact rfl)) ?_; (case hroom => (exact Room.mono (by assumption) (by decide)))); k_ownIn; kat_tups; k_ownIn; refine de_int ?_; refine da_nil ?_; k_allIn; refine ⟨_, _, rfl, ?_⟩; kba_ints; kas_types; k_offL))
        intro z g5 z0 z1 ok5
        skip
        obtain ⟨u, hu, ub⟩ : ∃ u, atI [D.int (x - 4), D.int (y - 10 ^ Int.toNat 6)] z = some (.int u) ∧ -1000000 ≤ u ∧ u ≤ 1000000 := by
          have : z = 0 ∨ z = 1 := by omega
          rcases this with rfl | rfl
          · exact ⟨_, rfl, by omega, by omega⟩
          · exact ⟨_, rfl, by simp; omega, by simp; omega⟩
        refine GetS.seq rfl rfl hu imm_int ?_
        (focus (kaf_suf))
        exact ⟨g5, ns ++ [u], ok5, by simp [addO], by simp [hn], fun y m => by
          rcases List.mem_append.mp m with m | m
          · exact hb y m
          · rw [List.mem_singleton.mp m]; exact ub, rfl⟩
      · rintro acc δ2 ⟨g3, ns, ok3, rfl, hn, hb, rfl⟩
        rw [rngD_len] at hn
        have hn8 : ns.length ≤ 8 := by omega
        have ins : ∀ x ∈ ns.map D.int, Imm x := imm_map fun _ => imm_int
        (focus (refine da_nil ?_; (refine SeqC.mk (by rfl) (by rfl) (by (((with_reducible (assumption)); done))) ?_); kaf_suf; allgen_close2_more; cell_call; refine de_add ?_; refine de_int ?_; got_up; k_ownIn; isplit; k_ownIn; k_upd; refine de_list ?_; k_ownIn; refine de_int ?_; k_ownIn; refine de_int ?_; k_ownIn; refine de_int ?_; refine da_nil ?_; k_subL; refine And.intro (show _ ≤ sizeLine by (decide)) ?_; got_up; k_ownIn; isplit; k_ownIn; refine de_int ?_; refine da_nil ?_; k_allIn; refine ⟨_, _, rfl, ?_⟩; kba_ints; kas_types; k_offL))
        intro z g4 z0 z1 ok4
        skip
        obtain ⟨u, hu, u0, u1⟩ : ∃ u, atI [D.int 6, D.int 12, D.int 40] z = some (.int u) ∧ 6 ≤ u ∧ u ≤ 40 := by
          have : z = 0 ∨ z = 1 ∨ z = 2 := by omega
          rcases this with rfl | rfl | rfl <;> exact ⟨_, rfl, by omega, by omega⟩
        refine GetS.seq rfl rfl hu imm_int ?_
        (focus (refine da_nil ?_; k_allIn; refine ⟨_, _, rfl, ?_⟩; kas_types; kas_types; k_offL))
        intro sz g5 s0 s1 ok5
        (focus (refine AddS.int ?_; kaf_suf; allgen_close2_more))
        refine ds_for (by assumption) (di_range (by assumption) (by assumption) (by walk_at "nm") (by assumption) ?_)
        (focus (k_ownIn; allgen_close_more; refine da_nil ?_; refine ⟨_, (by rfl), ?_⟩; kas_types))
        refine ⟨rfl, fun i δ => ∃ (gi : Dice) (rs : List Row) (x1 x2 x3 : Option D), gi.Ok ∧ rs.length = i ∧ (∀ r ∈ rs, r.Ok m (1 + sz)) ∧ δ = [some gi.d, some (.int m), some (.lst (rowsD rs)), some (.tup (ns.map .int)), some (.int (1 + sz)), x1, x2, x3, none], ⟨g5, [], _, _, _, ok5, rfl, by simp, rfl⟩, ?_, ?_⟩
        · rintro i d δ2 hd ⟨gi, rs, x1, x2, x3, oki, hl, hrs, rfl⟩
          obtain ⟨hi, rfl⟩ := rngD_get hd
          have irs : ∀ x ∈ rowsD rs, Imm x := rowsD_imm
          have hsz : (rowsD rs).length < sizeLine := by rw [sizeLine_eq]; simp [rowsD]; omega
          refine ⟨[5], ?_⟩
          (focus (fold_lay; allgen_close2_more; cell_call; k_upd; refine de_list ?_; k_ownIn; refine de_mod ?_; refine de_add ?_; allgen_close_more; refine de_int ?_; refine AddS.int ?_; allgen_close_more; refine I2.mk ?_; kas_types; k_ownIn; got_up; k_ownIn; isplit; k_ownIn; allgen_close_more; refine da_nil ?_; k_allIn; refine ⟨_, _, rfl, ?_⟩; kas_types; kas_types; k_offL))
          intro y1 g6 y10 y11 ok6
          (focus (refine da_nil ?_; kaf_pre; k_clsL; refine de_intc (by with_reducible assumption) (by with_reducible assumption) (by (with_reducible assumption)) (by with_reducible assumption) ?_; k_ownIn; refine de_eqQ (by with_reducible assumption) ?_; got_up; k_ownIn; isplit; k_ownIn; refine de_int ?_; refine da_nil ?_; k_allIn; refine ⟨_, _, rfl, ?_⟩; kba_ints; kas_types; k_offL))
          intro y2 g7 y20 y21 ok7
          (focus (refine de_int ?_; refine EqQ.l (L2s.mk (by rfl) (by rfl) ?_); refine And.intro (show scal _ _ = true by rfl) ?_; refine da_nil ?_; refine IntS.bl ?_))
          obtain ⟨u, hat, hu⟩ : ∃ u, atI [D.int ((0 + (i : Int) + 1) % (1 + sz)), D.int y1] (if decide (V.int y2 = V.int 3) = true then 1 else 0) = some (.int u) ∧ 0 ≤ u ∧ u < 1 + sz := by
            split
            · exact ⟨_, rfl, y10, y11⟩
            · exact ⟨_, rfl, Int.emod_nonneg _ (by omega), Int.emod_lt_of_pos _ (by omega)⟩
          refine GetS.seq rfl rfl hat imm_int ?_
          (focus (kaf_suf; allgen_close2_more; cell_call; got_up; k_ownIn; isplit; k_ownIn; refine de_int ?_; refine da_nil ?_; k_allIn; refine ⟨_, _, rfl, ?_⟩; kba_ints; kas_types; k_offL))
          intro way g8 w0 w1 ok8
          (focus (kaf_suf; allgen_close2_more; refine ds_if ?_; refine dt_pw (dw_and ?_); refine dt_lt ?_; allgen_close_more; refine de_int ?_; refine I2.mk ?_; refine br_dec (fun _ => ?_) (fun _ => ?_); refine dw_and1 ?_; refine dt_gt ?_; allgen_close_more; refine de_int ?_; refine I2.mk ?_; refine br_dec (fun _ => ?_) (fun _ => ?_); allgen_close2_more; refine ds_expr ?_; refine de_appendQ ?_; bits_by_make; refine And.intro (show IsLst _ _ from ⟨_, (by rfl)⟩) ?_; k_ownIn; refine de_tup ?_; k_ownIn; k_upd; refine de_list ?_; k_ownIn; refine de_str ?_; k_ownIn; refine de_str ?_; k_ownIn; refine de_str ?_; k_ownIn; refine de_str ?_; k_ownIn; refine de_str ?_; refine da_nil ?_; ((with_reducible refine' ex_takes ?exa ?_); (case exa => ((apply Takes.cons Take.v; apply Takes.cons Take.v; apply Takes.cons Take.v; apply Takes.cons Take.v; apply Takes.cons Take.v; exact Takes.nil)))); refine And.intro (show _ ≤ sizeLine by (decide)) ?_; allgen_close_more; (rotate_left); allgen_close2_more; refine ds_expr ?_; refine de_appendQ ?_; bits_by_make; refine And.intro (show IsLst _ _ from ⟨_, (by rfl)⟩) ?_; k_ownIn; k_upd; refine de_list ?_; k_ownIn; refine de_tup ?_; k_ownIn; refine de_str ?_; k_ownIn; allgen_close_more; refine da_nil ?_; kaf_pre; k_clsL; k_ownIn; refine de_tup ?_; k_ownIn; refine de_str ?_; k_ownIn; got_up; k_ownIn; isplit; k_ownIn; allgen_close_more; refine da_nil ?_; k_allIn; refine ⟨_, _, rfl, ?_⟩; kas_types; kas_types; k_offL; (rotate_left); refine br_false ?_; allgen_close2_more; refine ds_expr ?_; refine de_appendQ ?_; bits_by_make; refine And.intro (show IsLst _ _ from ⟨_, (by rfl)⟩) ?_; k_ownIn; k_upd; refine de_list ?_; k_ownIn; refine de_tup ?_; k_ownIn; refine de_str ?_; k_ownIn; allgen_close_more; refine da_nil ?_; kaf_pre; k_clsL; k_ownIn; refine de_tup ?_; k_ownIn; refine de_str ?_; k_ownIn; got_up; k_ownIn; isplit; k_ownIn; allgen_close_more; refine da_nil ?_; k_allIn; refine ⟨_, _, rfl, ?_⟩; kas_types; kas_types; k_offL; (rotate_left)))
          · rename_i hw5 hm0
            obtain ⟨o, ho⟩ : ∃ o : Op4, atI [D.str "load", D.str "add", D.str "take", D.str "store", D.str "add"] way = some (.str o.s) := by
              have : way = 0 ∨ way = 1 ∨ way = 2 ∨ way = 3 ∨ way = 4 := by omega
              rcases this with rfl | rfl | rfl | rfl | rfl
              · exact ⟨.load, rfl⟩
              · exact ⟨.add, rfl⟩
              · exact ⟨.take, rfl⟩
              · exact ⟨.store, rfl⟩
              · exact ⟨.add, rfl⟩
            refine GetS.seq rfl rfl ho imm_str ?_
            (focus (k_ownIn; got_up; k_ownIn; isplit; k_ownIn; allgen_close_more; refine da_nil ?_; k_allIn; refine ⟨_, _, rfl, (by with_reducible assumption), ?_⟩; kas_types; k_offL))
            intro v g9 v0 v1 ok9
            (focus (k_ownIn; allgen_close_more; refine da_nil ?_; k_subL; k_clsL; refine da_nil ?_; (with_reducible refine ex_1v ?_); refine AppQ.mk (by rfl) (by (with_reducible assumption)) ?_; refine db_nil ?_; refine db_nil ?_))
            exact ⟨g9, rs ++ [.op o v u], _, _, _, ok9, by simp [hl], fun q mm => by
              rcases List.mem_append.mp mm with mm | mm
              · exact hrs q mm
              · rw [List.mem_singleton.mp mm]; exact ⟨⟨v0, v1⟩, hu.1, hu.2⟩, by rw [← rowsD_app]; rfl⟩
          · skip
            intro y5 g9 y50 y51 ok9
            (focus (k_ownIn; allgen_close_more; refine da_nil ?_; k_subL; k_clsL; k_ownIn; refine de_tup ?_; k_ownIn; refine de_str ?_; refine da_nil ?_; ((with_reducible refine' ex_takes ?exa ?_); (case exa => ((apply Takes.cons Take.v; exact Takes.nil)))); refine And.intro (show _ ≤ sizeLine by (decide)) ?_; refine da_nil ?_; k_subL; k_clsL; refine de_mod ?_; allgen_close_more; refine de_int ?_; refine I2.mk ?_; kba_ints))
            obtain ⟨r, hr, okr⟩ : ∃ r : Row, atI [D.tup [.str "say", .int u], D.tup [.str "test", .int y5, .int u], D.tup [.str "stop"]] (way % 3) = some r.d ∧ r.Ok m (1 + sz) := by
              have : way % 3 = 0 ∨ way % 3 = 1 ∨ way % 3 = 2 := by omega
              rcases this with e | e | e <;> rw [e]
              · exact ⟨.say u, rfl, hu.1, hu.2⟩
              · exact ⟨.test y5 u, rfl, ⟨by omega, by omega⟩, hu.1, hu.2⟩
              · exact ⟨.stop, rfl, trivial⟩
            refine GetS.seq rfl rfl hr r.imm ?_
            (focus (refine da_nil ?_; (with_reducible refine ex_1v ?_); refine AppQ.mk (by rfl) (by (with_reducible assumption)) ?_; refine db_nil ?_; refine db_nil ?_))
            exact ⟨g9, rs ++ [r], _, _, _, ok9, by simp [hl], fun q mm => by
              rcases List.mem_append.mp mm with mm | mm
              · exact hrs q mm
              · rw [List.mem_singleton.mp mm]; exact okr, by rw [← rowsD_app]; rfl⟩
          · skip
            intro y5 g9 y50 y51 ok9
            (focus (k_ownIn; allgen_close_more; refine da_nil ?_; k_subL; k_clsL; k_ownIn; refine de_tup ?_; k_ownIn; refine de_str ?_; refine da_nil ?_; ((with_reducible refine' ex_takes ?exa ?_); (case exa => ((apply Takes.cons Take.v; exact Takes.nil)))); refine And.intro (show _ ≤ sizeLine by (decide)) ?_; refine da_nil ?_; k_subL; k_clsL; refine de_mod ?_; allgen_close_more; refine de_int ?_; refine I2.mk ?_; kba_ints))
            obtain ⟨r, hr, okr⟩ : ∃ r : Row, atI [D.tup [.str "say", .int u], D.tup [.str "test", .int y5, .int u], D.tup [.str "stop"]] (way % 3) = some r.d ∧ r.Ok m (1 + sz) := by
              have : way % 3 = 0 ∨ way % 3 = 1 ∨ way % 3 = 2 := by omega
              rcases this with e | e | e <;> rw [e]
              · exact ⟨.say u, rfl, hu.1, hu.2⟩
              · exact ⟨.test y5 u, rfl, ⟨by omega, by omega⟩, hu.1, hu.2⟩
              · exact ⟨.stop, rfl, trivial⟩
            refine GetS.seq rfl rfl hr r.imm ?_
            (focus (refine da_nil ?_; (with_reducible refine ex_1v ?_); refine AppQ.mk (by rfl) (by (with_reducible assumption)) ?_; refine db_nil ?_; refine db_nil ?_))
            exact ⟨g9, rs ++ [r], _, _, _, ok9, by simp [hl], fun q mm => by
              rcases List.mem_append.mp mm with mm | mm
              · exact hrs q mm
              · rw [List.mem_singleton.mp mm]; exact okr, by rw [← rowsD_app]; rfl⟩
        · rintro δ2 ⟨gi, rs, x1, x2, x3, oki, hl, hrs, rfl⟩
          rw [rngD_len] at hl
          have irs : ∀ x ∈ rowsD rs, Imm x := rowsD_imm
          (focus (allgen_close2_more; refine ds_ret ?_; refine de_tup ?_; k_ownIn; k_caught0; k_ownIn; refine de_tuplec (by with_reducible assumption) (by with_reducible assumption) (by (with_reducible assumption)) (by with_reducible assumption) ?_; k_ownIn; bits_by_make; refine da_nil ?_; (refine SeqC.mk (by rfl) (by rfl) (by (((with_reducible (assumption)); done))) ?_); refine da_nil ?_; kaf_pre; k_clsL; kaf_suf; refine ⟨_, (by rfl), ?_⟩))
          refine k ⟨ns, rs⟩ gi ⟨hn8, hb, ?_, ?_, fun r m' => ?_⟩ oki
          · show 1 ≤ rs.length
            omega
          · show rs.length ≤ 40
            omega
          · exact (hrs r m').mono (by show m ≤ (ns.length : Nat); omega) (by show 1 + sz ≤ (rs.length : Nat); omega)
end
local macro_rules | `(tactic| walk_at "h:l_laying") => `(tactic| (have : Sl n_l_laying 0 "_law_d" := rfl; have : Sl n_l_laying 1 "_law_program" := rfl; have : Sl n_l_laying 2 "_law_most" := rfl; have : Sl n_l_laying 3 "_law_wide" := rfl; have : Sl n_l_laying 4 "_law_places" := rfl; have : Sl n_l_laying 5 "_law_homes" := rfl; have : Sl n_l_laying 6 "_law_worth" := rfl; have : Sl n_l_laying 7 "_law_some" := rfl; have : Sl n_l_laying 8 "_law_row" := rfl; have : Sl n_l_laying 9 "_law_k" := rfl; have : Nm (defScope s_l_laying) "_law_d" .cell := rfl; have : Nm (defScope s_l_laying) "_law_program" .local := rfl; have : Nm (defScope s_l_laying) "_law_most" .local := rfl; have : Nm (defScope s_l_laying) "_law_wide" .cell := rfl; have : Nm (defScope s_l_laying) "_law_places" .local := rfl; have : Nm (defScope s_l_laying) "_law_homes" .local := rfl; have : Nm (defScope s_l_laying) "_law_worth" .local := rfl; have : Nm (defScope s_l_laying) "_law_some" .local := rfl; have : Nm (defScope s_l_laying) "_law_next" .globalImplicit := rfl; have : Nm (defScope s_l_laying) "tuple" .globalImplicit := rfl; have : Nm (defScope s_l_laying) "range" .globalImplicit := rfl; have : Nm (defScope s_l_laying) "sorted" .globalImplicit := rfl; have : Nm (defScope s_l_laying) "set" .globalImplicit := rfl; have : PlN "_law_d" := pl__law_d; have : PlN "_law_program" := pl__law_program; have : PlN "_law_most" := pl__law_most; have : PlN "_law_wide" := pl__law_wide; have : PlN "_law_places" := pl__law_places; have : PlN "_law_homes" := pl__law_homes; have : PlN "_law_worth" := pl__law_worth; have : PlN "_law_some" := pl__law_some; have : PlN "_law_row" := pl__law_row; have : PlN "_law_k" := pl__law_k; have : PlN "_law_next" := pl__law_next; have : PlN "tuple" := pl_tuple; have : PlN "range" := pl_range; have : PlN "sorted" := pl_sorted; have : PlN "set" := pl_set; (show DB _ _ [some _, some _, some _, none, none, none, none, none, none, none] (defBody s_l_laying) _)))
section
variable {P : Program} {w : World} {K : PySem.W.Frag} {mg : Str → Option Value} {base : Heap}
theorem ok_l_layingT {f : Addr} {fd : FuncData} (F : L2.Fun K "_law_laying" "_law_laying" s_l_laying f fd) (h1 : mg "tuple" = none) (h2 : mg "range" = none) (h3 : mg "sorted" = none) (h4 : mg "set" = none) (G : GFn P w K mg base 1 "_law_next" 2 preNext) : FnOk P w K mg base CX0 2 f fd p_l_laying (spD K 3 preLLayT) := by
  refine okD (N := n_l_laying) [true, false, false] F sc_l_laying rfl (by decide) ?_ ?_
  · rintro ds Φ _ ⟨g, p, most, rfl, _⟩
    exact imm_at1 (imm_cons p.imm (imm_cons imm_int imm_nil))
  · rintro X f ds Φ B hF J hr hp _ ⟨g, p, most, rfl, okg, okp, m1, m3, k⟩
    walk_at "h:l_laying"
    have ia : ∀ x ∈ p.ws.map D.int, Imm x := imm_map fun _ => imm_int
    have ib : ∀ x ∈ p.rows.map Row.d, Imm x := rows_imm
    have rl := okp.rl
    have wl := okp.wl
    unfold Prog.d
    (focus (allgen_close2_more; refine ds_set (by with_reducible assumption) (by (with_reducible assumption)) (by (exact Nm.stoC (by with_reducible assumption) (by assumption))) (by (exact unp_of (by with_reducible assumption) (by rfl))) ?_; refine de_add ?_; refine de_int ?_; k_memK; k_ownIn; isplit; k_ownIn; k_upd; refine de_list ?_; k_ownIn; refine de_int ?_; k_ownIn; refine de_int ?_; refine da_nil ?_; kaf_pre; refine And.intro (show _ ≤ sizeLine by (decide)) ?_; k_memK; k_ownIn; isplit; k_ownIn; refine de_int ?_; refine da_nil ?_; k_allIn; refine ⟨_, _, rfl, ?_⟩; kba_ints; kas_types; k_offL))
    intro v1 g1 v10 v11 ok1
    skip
    obtain ⟨u, hu, u0, u1⟩ : ∃ u, atI [D.int 4, D.int 23] v1 = some (.int u) ∧ 0 < u ∧ u ≤ 23 := by
      have : v1 = 0 ∨ v1 = 1 := by omega
      rcases this with rfl | rfl
      · exact ⟨_, rfl, by omega, by omega⟩
      · exact ⟨_, rfl, by omega, by omega⟩
    refine GetS.seq rfl rfl hu imm_int ?_
    (focus (refine da_nil ?_; k_allIn; refine ⟨_, _, rfl, (by with_reducible assumption), ?_⟩; kas_types; k_offL))
    intro wd g2 w0 w1 ok2
    iterate 4 (walk_at "go1")
    refine de_tupleF (by assumption) (by assumption) (by walk_at "nm") (by assumption) ?_
    (focus (k_ownIn))
    refine de_lcG (own := [("_law_row", 8)]) (by assumption) (by walk_at "blk") (by walk_at "pins") (di_seq ?_)
    (focus (k_upd; k_updF; refine de_int ?_; (refine GetS.seq (by rfl) (by rfl) (by rfl) (by (((with_reducible (refine imm_tup ?_; assumption)); done))) ?_); (refine SeqS.seq (by rfl) (by rfl) (by (((with_reducible (assumption)); done))) ?_)))
    refine ⟨rfl, by rw [List.length_map, sizeLine_eq]; omega, fun i acc δ => ∃ (gi : Dice) (ns : List Int), gi.Ok ∧ acc = ns.map .int ∧ ns.length = i ∧ (∀ x ∈ ns, 0 ≤ x ∧ x < 2 + wd) ∧ δ = [some gi.d, some (.tup [.tup (p.ws.map .int), .tup (p.rows.map Row.d)]), some (.int most), some (.int (2 + wd)), none, none, none, none, none, none], ⟨g2, [], ok2, rfl, rfl, by simp, rfl⟩, fun _ _ _ _ => rfl, ?_, ?_⟩
    · rintro i d acc δ2 hd _ ⟨gi, ns, oki, rfl, hn, hb, rfl⟩
      unfold Turn1
      (focus (k_caughtB; k_intsEnd; k_caughtB; refine dts_nil ?_; refine br_true ?_; k_caughtB; (refine de_call (by with_reducible assumption) (by with_reducible assumption) (by with_reducible assumption) ?hroom (by (exact rfl)) ?_; (case hroom => (with_reducible assumption))); k_ownIn; kat_tups; k_ownIn; (refine de_name (by with_reducible assumption) (by with_reducible assumption) (by (exact Nm.vis (k := .cell) (by exact rfl) rfl)) (by rfl) (by (((with_reducible (exact imm_int)); done))) ?_); refine da_nil ?_; k_allIn; refine ⟨_, _, rfl, ?_⟩; kas_types; kas_types; k_offL))
      intro x g3 x0 x1 ok3
      (focus (kaf_suf))
      exact ⟨g3, ns ++ [x], ok3, by simp [addO], by simp [hn], fun y m => by
        rcases List.mem_append.mp m with m | m
        · exact hb y m
        · rw [List.mem_singleton.mp m]; exact ⟨x0, x1⟩, rfl⟩
    · rintro acc δ2 ⟨g3, ns, ok3, rfl, hn, hb, rfl⟩
      rw [List.length_map] at hn
      have ins : ∀ x ∈ ns.map D.int, Imm x := imm_map fun _ => imm_int
      have ipt : Imm (ptD ns) := imm_pt
      (focus (refine da_nil ?_))
      refine ⟨_, ns, rfl, rfl, ?_⟩
      (focus (kaf_suf; allgen_close2_more; cell_call; refine de_list ?_; refine da_nil ?_; ((with_reducible refine' ex_takes ?exa ?_); (case exa => ((exact Takes.nil)))); refine And.intro (show _ ≤ sizeLine by (decide)) ?_; kaf_suf; allgen_close2_more))
      refine ds_for (by assumption) (di_seq ?_)
      (focus (k_upd; k_updF; refine de_int ?_; (refine GetS.seq (by rfl) (by rfl) (by rfl) (by (((with_reducible (refine imm_tup ?_; assumption)); done))) ?_); (refine SeqS.seq (by rfl) (by rfl) (by (((with_reducible (assumption)); done))) ?_)))
      refine ⟨rfl, fun i δ => ∃ (gi : Dice) (hs : List (List Int)) (x6 x7 : Option D), gi.Ok ∧ hs.length = i ∧ (∀ h ∈ hs, HomeOk (2 + wd) h ∧ (h.length : Int) ≤ most) ∧ δ = [some gi.d, some (.tup [.tup (p.ws.map .int), .tup (p.rows.map Row.d)]), some (.int most), some (.int (2 + wd)), some (ptD ns), some (.lst (hs.map homeD)), x6, x7, none, none], ⟨g3, [], _, _, ok3, rfl, by simp, rfl⟩, ?_, ?_⟩
      · rintro i d δ2 hd ⟨gi, hs, x6, x7, oki, hh, hv, rfl⟩
        obtain ⟨q, hq, rfl⟩ := map_get hd
        have il : i < p.ws.length := (List.getElem?_eq_some_iff.mp hq).1
        refine ⟨[6], ?_⟩
        (focus (fold_lay; allgen_close2_more))
        refine ds_setLc (own := [("_law_k", 9)]) (by assumption) (by walk_at "nm") (by walk_at "nm") (by walk_at "pin") (by walk_at "swap") (by walk_at "blk") (by walk_at "pins") (di_range (by assumption) (by assumption) (by walk_at "nm") (by assumption) ?_)
        (focus (k_ownIn; refine de_add ?_; refine de_int ?_; k_memK; k_ownIn; isplit; k_ownIn; allgen_close_more; refine da_nil ?_; k_allIn; refine ⟨_, _, rfl, ?_⟩; kas_types; kas_types; k_offL))
        intro z g4 z0 z1 ok4
        (focus (refine AddS.int ?_; refine da_nil ?_; refine ⟨_, (by rfl), ?_⟩; kas_types))
        refine ⟨rfl, by rw [rngD_len, sizeLine_eq]; omega, fun j acc δ => ∃ (gi : Dice) (ms : List Int), gi.Ok ∧ acc = ms.map .int ∧ ms.length = j ∧ (∀ x ∈ ms, 0 ≤ x ∧ x < 2 + wd) ∧ δ = [some gi.d, some (.tup [.tup (p.ws.map .int), .tup (p.rows.map Row.d)]), some (.int most), some (.int (2 + wd)), some (ptD ns), some (.lst (hs.map homeD)), some (.int q), x7, none, none], ⟨g4, [], ok4, rfl, rfl, by simp, rfl⟩, ?_, ?_⟩
        · rintro j d acc δ2 hd _ ⟨gi, ms, oki, rfl, hn2, hb2, rfl⟩
          obtain ⟨hi, rfl⟩ := rngD_get hd
          unfold Turn1
          (focus (k_caughtB; k_intsEnd; k_caughtB; refine dts_nil ?_; refine br_true ?_; k_caughtB; (refine de_call (by with_reducible assumption) (by with_reducible assumption) (by with_reducible assumption) ?hroom (by (exact rfl)) ?_; (case hroom => (with_reducible assumption))); k_ownIn; kat_tups; k_ownIn; (refine de_name (by with_reducible assumption) (by with_reducible assumption) (by (exact Nm.vis (k := .cell) (by exact rfl) rfl)) (by rfl) (by (((with_reducible (exact imm_int)); done))) ?_); refine da_nil ?_; k_allIn; refine ⟨_, _, rfl, ?_⟩; kas_types; kas_types; k_offL))
          intro x g5 x0 x1 ok5
          (focus (kaf_suf))
          exact ⟨g5, ms ++ [x], ok5, by simp [addO], by simp [hn2], fun y m => by
            rcases List.mem_append.mp m with m | m
            · exact hb2 y m
            · rw [List.mem_singleton.mp m]; exact ⟨x0, x1⟩, rfl⟩
        · rintro acc δ2 ⟨g5, ms, ok5, rfl, hn2, hb2, rfl⟩
          rw [rngD_len] at hn2
          have hm3 : 1 ≤ ms.length ∧ ms.length ≤ 3 := by omega
          have hm63 : ms.length ≤ 63 := by omega
          have hmm : (ms.length : Int) ≤ most := by omega
          have hsu := srtU_len ms
          have ims : ∀ x ∈ (srtU ms).map D.int, Imm x := imm_map fun _ => imm_int
          have szh : (hs.map homeD).length < sizeLine := by rw [List.length_map, sizeLine_eq]; omega
          (focus (kaf_suf; allgen_close2_more; refine ds_expr ?_; refine de_appendQ ?_; bits_by_make; refine And.intro (show IsLst _ _ from ⟨_, (by rfl)⟩) ?_; k_ownIn; refine de_tuplec (by with_reducible assumption) (by with_reducible assumption) (by (with_reducible assumption)) (by with_reducible assumption) ?_; k_ownIn; refine de_sortSet (by with_reducible assumption) (by with_reducible assumption) (by (with_reducible assumption)) (by with_reducible assumption) (by (with_reducible assumption)) (by with_reducible assumption) ?_; k_ownIn; bits_by_make; refine da_nil ?_; refine StS.mk (by rfl) (by rfl) (by with_reducible assumption) ?_; refine da_nil ?_; (refine SeqC.mk (by rfl) (by rfl) (by (((with_reducible (assumption)); done))) ?_); refine da_nil ?_; (with_reducible refine ex_1v ?_); refine AppQ.mk (by rfl) (by (with_reducible assumption)) ?_; refine db_nil ?_))
          refine ⟨g5, hs ++ [srtU ms], _, _, ok5, by simp [hh], fun h m => ?_, by rw [List.map_append]; rfl⟩
          rcases List.mem_append.mp m with m | m
          · exact hv h m
          · rw [List.mem_singleton.mp m]
            refine ⟨⟨⟨?_, Nat.le_trans (srtU_len ms) hm3.2⟩, srtU_sorted ms, fun x mx => hb2 x (srtU_mem.mp mx)⟩, by omega⟩
            cases ems : ms with
            | nil => rw [ems] at hm3; exact absurd hm3.1 (by simp)
            | cons a l =>
              have : a ∈ srtU (a :: l) := srtU_mem.mpr List.mem_cons_self
              exact List.length_pos_of_mem this
      · rintro δ2 ⟨gi, hs, x6, x7, oki, hh, hv, rfl⟩
        rw [List.length_map] at hh
        have ihs : ∀ x ∈ hs.map homeD, Imm x := imm_map homeD_imm
        (focus (allgen_close2_more; refine ds_ret ?_; refine de_tup ?_; k_ownIn; (refine de_name (by with_reducible assumption) (by with_reducible assumption) (by (with_reducible exact Nm.vis (k := .cell) (by assumption) rfl)) (by rfl) (by (((with_reducible (exact imm_int)); done))) ?_); k_ownIn; fold_depth; k_ownIn; refine de_tuplec (by with_reducible assumption) (by with_reducible assumption) (by (with_reducible assumption)) (by with_reducible assumption) ?_; k_ownIn; bits_by_make; refine da_nil ?_; (refine SeqC.mk (by rfl) (by rfl) (by (((with_reducible (assumption)); done))) ?_); refine da_nil ?_; k_subL; k_clsL; kaf_suf; refine ⟨_, (by rfl), ?_⟩))
        exact k ⟨2 + wd, ns, hs⟩ gi ⟨⟨by show (2 : Int) ≤ 2 + wd; omega, by show 2 + wd ≤ 24; omega⟩, by rw [hn], hb, hh, fun h m => (hv h m).1⟩ (fun h m => (hv h m).2) oki
end
local macro_rules | `(tactic| walk_at "h:law") => `(tactic| (have : Sl n_law 0 "_law_script" := rfl; have : Sl n_law 1 "_law_d" := rfl; have : Sl n_law 2 "_law_turn" := rfl; have : Sl n_law 3 "_law_program" := rfl; have : Sl n_law 4 "_law_wide" := rfl; have : Sl n_law 5 "_law_places" := rfl; have : Sl n_law 6 "_law_homes" := rfl; have : Sl n_law 7 "_law_rows" := rfl; have : Sl n_law 8 "_law_taken" := rfl; have : Sl n_law 9 "_law_lies" := rfl; have : Sl n_law 10 "_law_home" := rfl; have : Sl n_law 11 "_law_place" := rfl; have : Sl n_law 12 "_law_cells" := rfl; have : Sl n_law 13 "_law_number" := rfl; have : Sl n_law 14 "_law_row" := rfl; have : Sl n_law 15 "_law_what" := rfl; have : Sl n_law 16 "_law_k" := rfl; have : Sl n_law 17 "_law_is_worth" := rfl; have : Sl n_law 18 "_law_worth" := rfl; have : Sl n_law 19 "_law_order" := rfl; have : Sl n_law 20 "_law_due" := rfl; have : Sl n_law 21 "_law_again" := rfl; have : Sl n_law 22 "_law_found" := rfl; have : Sl n_law 23 "_law_spot" := rfl; have : Nm (defScope s_law) "_law_script" .local := rfl; have : Nm (defScope s_law) "_law_d" .local := rfl; have : Nm (defScope s_law) "_law_turn" .local := rfl; have : Nm (defScope s_law) "_law_program" .local := rfl; have : Nm (defScope s_law) "_law_wide" .local := rfl; have : Nm (defScope s_law) "_law_places" .cell := rfl; have : Nm (defScope s_law) "_law_homes" .local := rfl; have : Nm (defScope s_law) "_law_rows" .local := rfl; have : Nm (defScope s_law) "_law_taken" .cell := rfl; have : Nm (defScope s_law) "_law_lies" .local := rfl; have : Nm (defScope s_law) "_law_home" .local := rfl; have : Nm (defScope s_law) "_law_place" .local := rfl; have : Nm (defScope s_law) "_law_cells" .cell := rfl; have : Nm (defScope s_law) "_law_number" .cell := rfl; have : Nm (defScope s_law) "_law_row" .local := rfl; have : Nm (defScope s_law) "_law_what" .local := rfl; have : Nm (defScope s_law) "_law_k" .local := rfl; have : Nm (defScope s_law) "_law_is_worth" .local := rfl; have : Nm (defScope s_law) "_law_worth" .local := rfl; have : Nm (defScope s_law) "_law_order" .local := rfl; have : Nm (defScope s_law) "_law_due" .local := rfl; have : Nm (defScope s_law) "_law_again" .local := rfl; have : Nm (defScope s_law) "_law_found" .local := rfl; have : Nm (defScope s_law) "_law_dice" .globalImplicit := rfl; have : Nm (defScope s_law) "range" .globalImplicit := rfl; have : Nm (defScope s_law) "_law_any" .globalImplicit := rfl; have : Nm (defScope s_law) "_law_laying" .globalImplicit := rfl; have : Nm (defScope s_law) "enumerate" .globalImplicit := rfl; have : Nm (defScope s_law) "tuple" .globalImplicit := rfl; have : Nm (defScope s_law) "len" .globalImplicit := rfl; have : Nm (defScope s_law) "sorted" .globalImplicit := rfl; have : Nm (defScope s_law) "image" .globalImplicit := rfl; have : Nm (defScope s_law) "_law_like" .globalImplicit := rfl; have : Nm (defScope s_law) "tracks" .globalImplicit := rfl; have : Nm (defScope s_law) "max" .globalImplicit := rfl; have : PlN "_law_script" := pl__law_script; have : PlN "_law_d" := pl__law_d; have : PlN "_law_turn" := pl__law_turn; have : PlN "_law_program" := pl__law_program; have : PlN "_law_wide" := pl__law_wide; have : PlN "_law_places" := pl__law_places; have : PlN "_law_homes" := pl__law_homes; have : PlN "_law_rows" := pl__law_rows; have : PlN "_law_taken" := pl__law_taken; have : PlN "_law_lies" := pl__law_lies; have : PlN "_law_home" := pl__law_home; have : PlN "_law_place" := pl__law_place; have : PlN "_law_cells" := pl__law_cells; have : PlN "_law_number" := pl__law_number; have : PlN "_law_row" := pl__law_row; have : PlN "_law_what" := pl__law_what; have : PlN "_law_k" := pl__law_k; have : PlN "_law_is_worth" := pl__law_is_worth; have : PlN "_law_worth" := pl__law_worth; have : PlN "_law_order" := pl__law_order; have : PlN "_law_due" := pl__law_due; have : PlN "_law_again" := pl__law_again; have : PlN "_law_found" := pl__law_found; have : PlN "_law_spot" := pl__law_spot; have : PlN "_law_dice" := pl__law_dice; have : PlN "range" := pl_range; have : PlN "_law_any" := pl__law_any; have : PlN "_law_laying" := pl__law_laying; have : PlN "enumerate" := pl_enumerate; have : PlN "tuple" := pl_tuple; have : PlN "len" := pl_len; have : PlN "sorted" := pl_sorted; have : PlN "image" := pl_image; have : PlN "_law_like" := pl__law_like; have : PlN "tracks" := pl_tracks; have : PlN "max" := pl_max; (show DB _ _ [some _, none, none, none, none, none, none, none, none, none, none, none, none, none, none, none, none, none, none, none, none, none, none, none] (defBody s_law) _)))
section
variable {P : Program} {w : World} {K : PySem.W.Frag} {mg : Str → Option Value} {base : Heap}
theorem ok_law {f PI : Addr} {fd : FuncData} (F : L2.Fun K "law" "law" s_law f fd) (h1 : mg "range" = none) (h2 : mg "enumerate" = none) (h3 : mg "tuple" = none) (h4 : mg "len" = none) (h5 : mg "sorted" = none) (h6 : mg "max" = none) (G1 : GFn P w K mg base 1 "_law_dice" 1 preDice) (G2 : GFn P w K mg base 8 "_law_any" 1 preAny) (G3 : GFn P w K mg base 2 "_law_laying" 3 preLLayT) (G4 : GFn P w K mg base 7 "_law_like" 2 (preLikeM 6)) (G5 : GFn P w K mg base 4 "tracks" 2 preTracks) (G6 : GFnT P w K mg base [(PI, lamQ "image")] 5 "image" 2 preImage) : FnOk P w K mg base CX0 10 f fd p_law (spL2 K [(PI, lamQ "image")] preLaw) := by
  refine okL3 (N := n_law) [(PI, lamQ "image")] F sc_law (by decide) ?_
  rintro X f d Φ B hF J hr htb hp ⟨sc, hds, hl, k⟩
  cases hds
  have ht1 : ∀ p ∈ [(PI, lamQ "image")], p ∈ f.tb := fun p m => by rw [htb]; exact m
  have ht2 : ∀ p ∈ f.tb, ∀ p' ∈ [(PI, lamQ "image")], p.1 = p'.1 → p = p' := fun p m p' m' e => by
    rw [htb] at m
    rw [List.mem_singleton.mp m', List.mem_singleton.mp m]
  have hG : Unit → _ := fun _ => G6
  clear G6
  walk_at "h:law"
  (focus (allgen_close2_more; cell_call; got_up; k_ownIn; (refine de_name (by with_reducible assumption) (by with_reducible assumption) (by (with_reducible exact Nm.vis (k := .local) (by assumption) rfl)) (by rfl) (by (((with_reducible (exact imm_fzi)); done))) ?_); refine da_nil ?_; ((with_reducible refine' ex_call ?exa ?exb ?exc ?_); (case exa => (rfl)); (case exb => rfl); (case exc => exact List.nodup_nil)); refine ⟨_, (by rfl), ?_⟩; k_offL))
  intro g okg
  (focus (kaf_suf; allgen_close2_more))
  refine ds_for (by assumption) (di_range (by assumption) (by assumption) (by walk_at "nm") (by assumption) ?_)
  (focus (k_ownIn; refine de_int ?_; refine da_nil ?_; refine ⟨_, (by rfl), ?_⟩; kas_types))
  refine ⟨rfl, fun i δ => ∃ (g : Dice) (x2 x3 x4 x5 x6 x7 x8 x9 x10 x11 x12 x13 x14 x15 x16 x17 x18 x19 x20 x21 x22 x23 : Option D), g.Ok ∧ δ = [some (.fz (sc.map .int)), some g.d, x2, x3, x4, x5, x6, x7, x8, x9, x10, x11, x12, x13, x14, x15, x16, x17, x18, x19, x20, x21, x22, x23], ⟨g, _, _, _, _, _, _, _, _, _, _, _, _, _, _, _, _, _, _, _, _, _, _, okg, rfl⟩, ?_, ?_⟩
  · rintro i d δ2 hd ⟨g, x2, x3, x4, x5, x6, x7, x8, x9, x10, x11, x12, x13, x14, x15, x16, x17, x18, x19, x20, x21, x22, x23, okg, rfl⟩
    obtain ⟨hi, rfl⟩ := rngD_get hd
    refine ⟨[2], ?_⟩
    (focus (fold_lay; allgen_close2_more; cell_call; got_up; k_ownIn; bits_by_make; refine da_nil ?_; k_allIn; refine ⟨_, (by rfl), ?_⟩; k_offL))
    intro p g1 okp ok1
    have ipp := p.imm
    have rl := okp.rl
    have wl := okp.wl
    (focus (kaf_suf; allgen_close2_more; refine ds_asgW ?_; got_up; k_ownIn; bits_by_make; k_ownIn; fold_depth; k_ownIn; refine de_int ?_; refine da_nil ?_; k_allIn))
    refine ⟨g1, p, 3, rfl, ok1, okp, by decide, by decide, fun l g2 okl hmost ok2 => ?_⟩
    have ill := l.imm
    have ipt : Imm (ptD l.pl) := imm_pt
    have ipl : ∀ x ∈ l.pl.map D.int, Imm x := imm_map fun _ => imm_int
    have ihm : ∀ x ∈ l.hm.map homeD, Imm x := imm_map homeD_imm
    obtain ⟨w1, w2⟩ := okl.w
    have hml := okl.hl
    have hpl := okl.pl
    (focus (kaf_suf; refine dgw_tup (by with_reducible assumption) ?_; refine dgsw_cons ?_; refine dgw_name (by with_reducible assumption) (by with_reducible assumption) (by (exact Nm.sto (by with_reducible assumption))) (by (exact unp_of (by with_reducible assumption) (by rfl))) ?_; refine dgsw_cons ?_; refine dgw_name (by with_reducible assumption) (by with_reducible assumption) (by (exact Nm.stoC (by with_reducible assumption) (by assumption))) (by (exact unp_of (by with_reducible assumption) (by rfl))) ?_; refine dgsw_cons ?_; refine dgw_name (by with_reducible assumption) (by with_reducible assumption) (by (exact Nm.sto (by with_reducible assumption))) (by (exact unp_of (by with_reducible assumption) (by rfl))) ?_; refine dgsw_nil ?_; allgen_close2_more))
    refine ds_setLcG (own := [("_law_number", 13), ("_law_place", 11)]) (by assumption) (by walk_at "nm") (by walk_at "nm") (by walk_at "pin") (by walk_at "swap") (by walk_at "blk") (by walk_at "pins") (di_enum (by assumption) (by assumption) (by walk_at "nm") (by assumption) ?_)
    refine da_cons ?_
    refine de_viewPt (i := 5) (by assumption) (by with_reducible assumption) (by walk_at "vis") rfl ?_
    (focus (refine da_nil ?_; (with_reducible refine ex_one ?_); (refine SeqS.seq (by rfl) (by rfl) (by (((with_reducible (assumption)); done))) ?_)))
    refine ⟨rfl, by rw [enD_len, List.length_map, sizeLine_eq]; omega, fun j acc δ => acc = (spotsOf [] (l.pl.take j)).map pairD ∧ δ = [some (.fz (sc.map .int)), some g2.d, some (.int (0 + (i : Nat))), some p.d, some (.int l.wide), some (ptD l.pl), some (.tup (l.hm.map homeD)), x7, x8, x9, x10, none, x12, none, x14, x15, x16, x17, x18, x19, x20, x21, x22, x23], ⟨rfl, rfl⟩, fun _ _ _ _ => rfl, ?_, ?_⟩
    · rintro j d acc δ2 hd2 _ ⟨rfl, rfl⟩
      obtain ⟨d, hd3, rfl⟩ := enD_get hd2
      obtain ⟨q, hq2, rfl⟩ := map_get hd3
      have hj : j < l.pl.length := (List.getElem?_eq_some_iff.mp hq2).1
      unfold Turn1
      iterate 15 (walk_at "go1")
      refine de_cntF (de_slF ?_)
      refine de_name (i := 5) (by assumption) (by with_reducible assumption) (by walk_at "vis") rfl ipt ?_
      (focus (refine do_none ?_; refine do_some ?_; k_places; (with_reducible refine ex_int ?_); refine ⟨_, (by rfl), ?_⟩; refine ⟨_, (by rfl), ?_⟩; k_ownIn; k_places; refine da_nil ?_; refine ⟨_, (by rfl), ?_⟩; refine da_nil ?_; kaf_pre; k_clsL; kaf_suf))
      rw [cutA_headI (by omega) (by omega), Int.toNat_natCast]
      refine ⟨?_, rfl⟩
      rw [spotsOf_take hq2, List.map_append]
      rfl
    · rintro acc δ2 ⟨rfl, rfl⟩
      have e1 : l.pl.take (enD (l.pl.map D.int)).length = l.pl := by rw [enD_len, List.length_map]; exact List.take_length
      rw [e1]
      refine ⟨_, _, .v, ?_⟩
      (focus (allgen_close2_more))
      refine ds_set (by assumption) (by walk_at "nm") (by walk_at "sto") (by walk_at "pin") ?_ (hs := sw_cell (by assumption) (by with_reducible assumption))
      refine de_lcG (own := [("_law_place", 11)]) (by assumption) (by walk_at "blk") (by walk_at "pins") (di_range (by assumption) (by assumption) (by walk_at "nm") (by assumption) ?_)
      (focus (k_ownIn; allgen_close_more; refine da_nil ?_; refine ⟨_, (by rfl), ?_⟩; kas_types))
      refine lc_mapB (List.range l.wide.toNat) (fun i => D.int (0 + (i : Nat))) (fun q => D.int (trackI l.pl ((q : Nat) : Int))) rfl rfl (by rfl) (by rw [List.length_range, sizeLine_eq]; omega) (fun j q hq => ?_) ?_
      · unfold Turn1
        iterate 6 (walk_at "go1")
        refine de_cntF ?_
        refine de_name (i := 5) (by assumption) (by with_reducible assumption) (by walk_at "vis") rfl ipt ?_
        (focus (refine ⟨_, (by rfl), ?_⟩; k_ownIn; k_places; refine da_nil ?_; refine ⟨_, (by rfl), ?_⟩; kaf_suf))
        exact ⟨by rw [Int.zero_add]; rfl, rfl⟩
      · have et : (List.range l.wide.toNat).map (fun q => D.int (trackI l.pl ((q : Nat) : Int))) = (takenL l.wide (l.pl ++ (l.hm.take 0).flatten)).map D.int := by
          rw [List.take_zero, List.flatten_nil, List.append_nil]
          unfold takenL
          rw [List.map_map]
          rfl
        rw [et]
        have er : (spotsOf [] l.pl).map pairD = l.rsp.map pairD := rfl
        rw [er]
        have ir : ∀ x ∈ l.rsp.map pairD, Imm x := imm_map pairD_imm
        (focus (kaf_suf; allgen_close2_more; cell_call; refine de_list ?_; refine da_nil ?_; ((with_reducible refine' ex_takes ?exa ?_); (case exa => ((exact Takes.nil)))); refine And.intro (show _ ≤ sizeLine by (decide)) ?_; kaf_suf; allgen_close2_more))
        refine ds_wk (wkE_set (i := 5) rfl wk_pt) ?_
        simp only [List.set_cons_succ, List.set_cons_zero]
        refine ds_for (by assumption) (di_seq ?_)
        (focus (k_caught0; (refine SeqS.seq (by rfl) (by rfl) (by (((with_reducible (assumption)); done))) ?_)))
        refine ⟨rfl, fun m δ => ∃ y10 y11 : Option D, δ = [some (.fz (sc.map .int)), some g2.d, some (.int (0 + (i : Nat))), some p.d, some (.int l.wide), some (.tup (l.pl.map .int)), some (.tup (l.hm.map homeD)), some (.lst (l.rsp.map pairD)), some (.lst ((takenL l.wide (l.pl ++ (l.hm.take m).flatten)).map .int)), some (.lst ((homesSpots l.pl (l.hm.take m)).map wspD)), y10, y11, x12, none, x14, x15, x16, x17, x18, x19, x20, x21, x22, x23], ⟨_, _, rfl⟩, ?_, ?_⟩
        · rintro m d δ2 hd4 ⟨y10, y11, rfl⟩
          obtain ⟨h, hq, rfl⟩ := map_get hd4
          refine ⟨[10], ?_⟩
          have hh := okl.hv h (List.mem_of_getElem? hq)
          have ihq := homeD_imm h
          have ihs : ∀ x ∈ h.map D.int, Imm x := imm_map fun _ => imm_int
          have lh : h.length ≤ 3 := hh.1.2
          have hsl : ((homesSpots l.pl (l.hm.take m)).map wspD).length < sizeLine := by rw [List.length_map, homesSpots_len, List.length_take, sizeLine_eq]; omega
          (focus (fold_lay; allgen_close2_more; refine ds_expr ?_; refine de_appendQ ?_; bits_by_make; refine And.intro (show IsLst _ _ from ⟨_, (by rfl)⟩) ?_; k_ownIn; refine de_tuplec (by with_reducible assumption) (by with_reducible assumption) (by (with_reducible assumption)) (by with_reducible assumption) ?_; k_ownIn))
          refine de_lcG (own := [("_law_place", 11)]) (by assumption) (by walk_at "blk") (by walk_at "pins") (di_seq ?_)
          (focus (fold_depth; (refine SeqS.seq (by rfl) (by rfl) (by (((with_reducible (assumption)); done))) ?_)))
          refine lc_mapB h D.int (fun x => pairD (x, trackI (l.pl ++ (l.hm.take m).flatten) x)) rfl rfl rfl (by rw [sizeLine_eq]; omega) (fun j x hx => ?_) ?_
          · have hxb := hh.2.2 x (List.mem_of_getElem? hx)
            have eg := takenL_get (F := l.pl ++ (l.hm.take m).flatten) hxb.1 hxb.2
            have at1 : atI ((takenL l.wide (l.pl ++ (l.hm.take m).flatten)).map D.int) x = some (D.int (trackI (l.pl ++ (l.hm.take m).flatten) x)) := atI_map hxb.1 eg
            unfold Turn1
            (focus (k_caughtB; k_intsEnd; k_caughtB; refine dts_nil ?_; refine br_true ?_; k_caughtB; refine de_tup ?_; k_ownIn; k_places; k_ownIn; k_upd; kat_tups; k_places))
            refine GetS.seq rfl rfl at1 imm_int ?_
            (focus (refine da_nil ?_; kaf_pre; k_clsL; kaf_suf))
            exact ⟨rfl, rfl⟩
          · have iw := wspD_imm (homeSpots (l.pl ++ (l.hm.take m).flatten) h)
            have ew : D.tup (h.map fun x => pairD (x, trackI (l.pl ++ (l.hm.take m).flatten) x)) = wspD (homeSpots (l.pl ++ (l.hm.take m).flatten) h) := by unfold wspD homeSpots; rw [List.map_map]; rfl
            have im : ∀ x ∈ h.map (fun x => pairD (x, trackI (l.pl ++ (l.hm.take m).flatten) x)), Imm x := imm_map fun _ => pairD_imm _
            (focus (refine da_nil ?_; (refine SeqC.mk (by rfl) (by rfl) (by (((with_reducible (assumption)); done))) ?_); refine da_nil ?_; (with_reducible refine ex_1v ?_); refine AppQ.mk (by rfl) (by (with_reducible assumption)) ?_; allgen_close2_more))
            rw [ew]
            skip
            refine ds_for (by assumption) (di_seq ?_)
            (focus (fold_depth; (refine SeqS.seq (by rfl) (by rfl) (by (((with_reducible (assumption)); done))) ?_)))
            have ex : (homesSpots l.pl (l.hm.take m)).map wspD ++ [wspD (homeSpots (l.pl ++ (l.hm.take m).flatten) h)] = (homesSpots l.pl (l.hm.take (m + 1))).map wspD := by
              rw [List.take_add_one, hq]
              show _ = (homesSpots l.pl (l.hm.take m ++ [h])).map wspD
              rw [homesSpots_snoc, List.map_append]
              rfl
            rw [ex]
            refine ⟨rfl, fun j δ => ∃ y11, δ = [some (.fz (sc.map .int)), some g2.d, some (.int (0 + (i : Nat))), some p.d, some (.int l.wide), some (.tup (l.pl.map .int)), some (.tup (l.hm.map homeD)), some (.lst (l.rsp.map pairD)), some (.lst ((takenL l.wide (l.pl ++ (l.hm.take m).flatten ++ h.take j)).map .int)), some (.lst ((homesSpots l.pl (l.hm.take (m + 1))).map wspD)), some (homeD h), y11, x12, none, x14, x15, x16, x17, x18, x19, x20, x21, x22, x23], ⟨none, by simp⟩, ?_, ?_⟩
            · rintro j d δ2 hd ⟨y11, rfl⟩
              obtain ⟨x, hx, rfl⟩ := map_get hd
              have hxb := hh.2.2 x (List.mem_of_getElem? hx)
              have eg := takenL_get (F := l.pl ++ (l.hm.take m).flatten ++ h.take j) hxb.1 hxb.2
              have at1 : atI ((takenL l.wide (l.pl ++ (l.hm.take m).flatten ++ h.take j)).map D.int) x = some (D.int (trackI (l.pl ++ (l.hm.take m).flatten ++ h.take j) x)) := atI_map hxb.1 eg
              have hix : ixN ((takenL l.wide (l.pl ++ (l.hm.take m).flatten ++ h.take j)).map D.int).length x = some x.toNat := ixN_nat hxb.1 (by rw [List.length_map, takenL_len]; omega)
              refine ⟨[11], ?_⟩
              (focus (fold_lay; allgen_close2_more; refine ds_sto (by with_reducible assumption) ?_; refine de_add ?_; k_upd; isplit; allgen_close_more))
              refine GetS.seq rfl rfl at1 imm_int ?_
              (focus (refine de_int ?_; refine AddS.int ?_; kaf_suf; isplit; allgen_close_more))
              refine StoS.lst rfl hix ?_
              (focus (refine db_nil ?_))
              refine ⟨some (.int x), ?_⟩
              have ei : h.take (j + 1) = h.take j ++ [x] := by rw [List.take_add_one, hx]; rfl
              rw [ei, ← List.append_assoc, ← takenL_step hxb.1 hxb.2, List.map_set]
              rfl
            · rintro δ2 ⟨y11, rfl⟩
              have e4 : h.take ((h.map D.int).length) = h := by rw [List.length_map]; exact List.take_length
              rw [e4]
              (focus (refine db_nil ?_))
              refine ⟨some (homeD h), y11, ?_⟩
              have ei : (l.hm.take (m + 1)).flatten = (l.hm.take m).flatten ++ h := by rw [List.take_add_one, hq]; simp
              rw [ei, ← List.append_assoc]
        · rintro δ2 ⟨y10, y11, rfl⟩
          have e2 : l.hm.take ((l.hm.map homeD).length) = l.hm := by rw [List.length_map]; exact List.take_length
          rw [e2]
          have e3 : 0 < (takenL l.wide (l.pl ++ l.hm.flatten)).length := by rw [takenL_len]; omega
          have iw : ∀ x ∈ l.wsp.map wspD, Imm x := imm_map wspD_imm
          have eW : (homesSpots l.pl l.hm).map wspD = l.wsp.map wspD := rfl
          rw [eW]
          (focus (allgen_close2_more; refine ds_set (by with_reducible assumption) (by (with_reducible assumption)) (by (exact Nm.stoC (by with_reducible assumption) (by assumption))) (by (exact unp_of (by with_reducible assumption) (by rfl))) ?_; refine de_list ?_; refine da_nil ?_; ((with_reducible refine' ex_takes ?exa ?_); (case exa => ((exact Takes.nil)))); refine And.intro (show _ ≤ sizeLine by (decide)) ?_; kaf_suf; allgen_close2_more))
          have irf := imm_fz ir
          have iwf := imm_fz iw
          refine ds_frz0 (i := 7) rfl ir ?_
          refine ds_frz0 (i := 9) rfl iw ?_
          simp only [List.set_cons_succ, List.set_cons_zero]
          have ib : ∀ x ∈ p.rows.map Row.d, Imm x := rows_imm
          have rsl := l.rsp_len
          have wsl := l.wsp_len
          refine ds_for (by assumption) (di_enum (by assumption) (by assumption) (by walk_at "nm") (by assumption) ?_)
          unfold Prog.d
          (focus (k_ownIn; k_upd; (refine de_name (by with_reducible assumption) (by with_reducible assumption) (by (with_reducible exact Nm.vis (k := .local) (by assumption) rfl)) (by rfl) (by (((with_reducible (refine imm_tup ?_; refine imm_cons ?_ ?_; refine imm_tup ?_; exact imm_map fun _ => imm_int; refine imm_cons ?_ ?_; refine imm_tup ?_; assumption; exact imm_nil)); done))) ?_); refine de_int ?_; (refine GetS.seq (by rfl) (by rfl) (by rfl) (by (((with_reducible (refine imm_tup ?_; assumption)); done))) ?_); refine da_nil ?_; (with_reducible refine ex_one ?_); (refine SeqS.seq (by rfl) (by rfl) (by (((with_reducible (assumption)); done))) ?_)))
          refine ⟨rfl, fun m δ => ∃ y13 y14 y15 y16 y17 : Option D, δ = [some (.fz (sc.map .int)), some g2.d, some (.int (0 + (i : Nat))), some (.tup [.tup (p.ws.map .int), .tup (p.rows.map Row.d)]), some (.int l.wide), some (.tup (l.pl.map .int)), some (.tup (l.hm.map homeD)), some (.fz (l.rsp.map pairD)), some (.lst ((takenL l.wide (l.pl ++ l.hm.flatten)).map .int)), some (.fz (l.wsp.map wspD)), y10, y11, some (.lst ((((l.rsp.zip p.rows).take m).map fun c => ((c.1, whatD l.rsp l.wsp c.2) : Cell)).map cellD)), y13, y14, y15, y16, y17, x18, x19, x20, x21, x22, x23], ⟨_, _, _, _, _, rfl⟩, ?_, ?_⟩
          · rintro m d δ2 hd5 ⟨y13, y14, y15, y16, y17, rfl⟩
            obtain ⟨d, hd6, rfl⟩ := enD_get hd5
            obtain ⟨r, hr2, rfl⟩ := map_get hd6
            have hri := r.imm
            have okr := okp.rv r (List.mem_of_getElem? hr2)
            have hir : m < p.rows.length := (List.getElem?_eq_some_iff.mp hr2).1
            obtain ⟨s, hs⟩ : ∃ s, l.rsp[m]? = some s := ⟨_, List.getElem?_eq_getElem (by omega)⟩
            have hz : (l.rsp.zip p.rows)[m]? = some (s, r) := List.getElem?_zip_eq_some.mpr ⟨hs, hr2⟩
            have ial : ∀ x ∈ r.args.map D.int, Imm x := imm_map fun _ => imm_int
            have hal : r.args.length ≤ 2 := by have := r.wl; simp [Row.ws] at this; omega
            refine ⟨[13, 14], ?_⟩
            (focus (refine dg_tup (by with_reducible assumption) ?_; refine dgs_name ?_; refine dg_name (by with_reducible assumption) (by with_reducible assumption) (by (exact Nm.stoC (by with_reducible assumption) (by assumption))) (by (exact unp_of (by with_reducible assumption) (by rfl))) ?_; refine dgs_name ?_; fold_lay; refine dgs_nil ?_; allgen_close2_more; cell_call; refine de_slice ?_; fold_depth; refine do_none ?_; refine do_some ?_; refine de_int ?_; (with_reducible refine ex_int ?_); (refine SlS.tup (by rfl) (by (((with_reducible (refine imm_cons ?_ ?_; exact imm_str; assumption)); done))) ?_); kaf_suf; allgen_close2_more))
            rw [cutA_first]
            refine ds_for (by assumption) (di_range2 (by assumption) (by assumption) (by walk_at "nm") (by assumption) ?_)
            (focus (k_ownIn; refine de_int ?_; k_ownIn; k_caughtN0; k_ownIn; fold_depth; refine da_nil ?_; refine LenQ.s (LenS.seq (by rfl) (by rfl) ?_); refine da_nil ?_; refine ⟨_, _, rfl, ?_⟩))
            have egl : (((D.str r.nm :: r.args.map D.int).length : Int) - 1).toNat = r.args.length := by simp
            have elr : ((D.str r.nm :: r.args.map D.int).length : Int) = r.args.length + 1 := by simp
            generalize hW : wa l.rsp l.wsp r = W
            have Wl : W.length = r.args.length := by rw [← hW]; exact wa_len
            have Wi : ∀ x ∈ W, Imm x := by rw [← hW]; exact wa_imm
            refine ⟨⟨by omega, by omega, by omega, by omega⟩, rfl, fun k2 δ => ∃ (y16 y17 : Option D), δ = [some (.fz (sc.map .int)), some g2.d, some (.int (0 + (i : Nat))), some (.tup [.tup (p.ws.map .int), .tup (p.rows.map Row.d)]), some (.int l.wide), some (.tup (l.pl.map .int)), some (.tup (l.hm.map homeD)), some (.fz (l.rsp.map pairD)), some (.lst ((takenL l.wide (l.pl ++ l.hm.flatten)).map .int)), some (.fz (l.wsp.map wspD)), y10, y11, some (.lst ((((l.rsp.zip p.rows).take m).map fun c => ((c.1, whatD l.rsp l.wsp c.2) : Cell)).map cellD)), some (.int m), some r.d, some (.tup (.str r.nm :: W.take k2)), y16, y17, x18, x19, x20, x21, x22, x23], ⟨_, _, rfl⟩, ?_, ?_⟩
            · rintro k2 d δ2 hd ⟨y16, y17, rfl⟩
              obtain ⟨hk, rfl⟩ := rngD_get hd
              rw [egl] at hk
              obtain ⟨q, hq⟩ : ∃ q, r.args[k2]? = some q := ⟨_, List.getElem?_eq_getElem hk⟩
              have hRq := wa_at (rs := l.rsp) (ws := l.wsp) hq
              rw [hW] at hRq
              have hql := Row.arg_lt okr hq
              have hat : atI (D.str r.nm :: r.args.map D.int) (1 + (k2 : Int)) = some (.int q) := by
                rw [atI_succ (by simpa using hk), List.getElem?_map, hq]; rfl
              have tk : ∀ v, W[k2]? = some v → (D.str r.nm :: W.take k2) ++ [v] = D.str r.nm :: W.take (k2 + 1) := fun v hv => by
                rw [List.take_add_one, hv]; simp
              have itk : ∀ x ∈ W.take k2, Imm x := fun x mx => Wi x (List.mem_of_mem_take mx)
              have szk : ∀ v : D, (D.str r.nm :: W.take k2).length + [v].length ≤ sizeLine := fun v => by
                rw [sizeLine_eq, List.length_cons, List.length_take, List.length_singleton]; omega
              refine ⟨[16], ?_⟩
              by_cases hA : (k2 == 0 && r.isOp) = true
              · rw [if_pos hA] at hRq hql
                obtain ⟨hk0, hop⟩ : k2 = 0 ∧ r.isOp = true := by simpa using hA
                have e1 : decide (V.int (1 + (k2 : Int)) = V.int 1) = true := by rw [hk0]; rfl
                have hnat := homeAt_get (ws := l.wsp) (x := q) ⟨hql.1, by omega⟩
                have ihq := wspD_imm (homeAt l.wsp q)
                have hin : inV (.str r.nm) [.str "load", .str "add", .str "take", .str "store"] = true := (isOp_in r).trans hop
                (focus (fold_lay; allgen_close2_more; cell_call; refine de_and ?_; refine de_eqQ (by with_reducible assumption) ?_; allgen_close_more; refine de_int ?_; refine EqQ.l (L2s.mk (by rfl) (by rfl) ?_); refine And.intro (show scal _ _ = true by rfl) ?_; (with_reducible refine ex_bl ?_); refine br_T (by assumption) ?_; refine de_bone ?_; refine de_inQ (by with_reducible assumption) ?_; k_upd; fold_depth; refine de_int ?_; (refine GetS.seq (by rfl) (by rfl) (by exact atI_zero) (by (((with_reducible (exact imm_str)); done))) ?_); refine de_tup ?_; k_ownIn; refine de_str ?_; k_ownIn; refine de_str ?_; k_ownIn; refine de_str ?_; k_ownIn; refine de_str ?_; refine da_nil ?_; ((with_reducible refine' ex_takes ?exa ?_); (case exa => ((apply Takes.cons Take.v; apply Takes.cons Take.v; apply Takes.cons Take.v; apply Takes.cons Take.v; exact Takes.nil)))); refine And.intro (show _ ≤ sizeLine by (decide)) ?_; refine InQ.s (InS.flat (by rfl) (by rfl) (by rfl) (by rfl) (by rfl) (by rfl) (by rfl) ?_); kaf_suf; allgen_close2_more; cell_call; refine de_add ?_; k_caughtNB; refine de_tup ?_; k_ownIn; k_upd; refine de_if ?_; refine dt_val ?_; (refine de_name (by with_reducible assumption) (by with_reducible assumption) (by (with_reducible exact Nm.vis (k := .local) (by assumption) rfl)) (by rfl) (by (((with_reducible (exact imm_bl)); done))) ?_); (with_reducible refine ex_bl ?_); refine br_T (by assumption) ?_; fold_depth; k_upd; fold_depth; allgen_close_more))
                refine GetS.seq rfl rfl hat imm_int ?_
                skip
                refine GetS.seq rfl rfl hnat ihq ?_
                (focus (refine da_nil ?_; ((with_reducible refine' ex_takes ?exa ?_); (case exa => ((apply Takes.cons Take.v; exact Takes.nil)))); k_clsL; (refine AddS.tup (by rfl) (by rfl) (by (((with_reducible (refine imm_app ?_ ?_; refine imm_cons ?_ ?_; exact imm_str; assumption; refine imm_cons ?_ ?_; assumption; exact imm_nil)); done))) (by ((rw [sizeLine_eq]; simp; omega))) ?_); kaf_suf; refine db_nil ?_))
                refine ⟨some (.int (1 + (k2 : Int))), some (.bl true), ?_⟩
                rw [hin, ← tk _ hRq]
                rfl
              · rw [if_neg hA] at hRq hql
                have hnat := spotAt_get (rs := l.rsp) (x := q) ⟨hql.1, by omega⟩
                have ihq := pairD_imm (spotAt l.rsp q)
                by_cases hk0 : k2 = 0
                · have hop : r.isOp = false := by
                    cases q : r.isOp with
                    | false => rfl
                    | true => exact absurd (by simp [hk0, q]) hA
                  have e1 : decide (V.int (1 + (k2 : Int)) = V.int 1) = true := by rw [hk0]; rfl
                  have hin : inV (.str r.nm) [.str "load", .str "add", .str "take", .str "store"] = false := (isOp_in r).trans hop
                  (focus (fold_lay; allgen_close2_more; cell_call; refine de_and ?_; refine de_eqQ (by with_reducible assumption) ?_; allgen_close_more; refine de_int ?_; refine EqQ.l (L2s.mk (by rfl) (by rfl) ?_); refine And.intro (show scal _ _ = true by rfl) ?_; (with_reducible refine ex_bl ?_); refine br_T (by assumption) ?_; refine de_bone ?_; refine de_inQ (by with_reducible assumption) ?_; k_upd; fold_depth; refine de_int ?_; (refine GetS.seq (by rfl) (by rfl) (by exact atI_zero) (by (((with_reducible (exact imm_str)); done))) ?_); refine de_tup ?_; k_ownIn; refine de_str ?_; k_ownIn; refine de_str ?_; k_ownIn; refine de_str ?_; k_ownIn; refine de_str ?_; refine da_nil ?_; ((with_reducible refine' ex_takes ?exa ?_); (case exa => ((apply Takes.cons Take.v; apply Takes.cons Take.v; apply Takes.cons Take.v; apply Takes.cons Take.v; exact Takes.nil)))); refine And.intro (show _ ≤ sizeLine by (decide)) ?_; refine InQ.s (InS.flat (by rfl) (by rfl) (by rfl) (by rfl) (by rfl) (by rfl) (by rfl) ?_); kaf_suf; allgen_close2_more; cell_call; refine de_add ?_; k_caughtNB; refine de_tup ?_; k_ownIn; k_upd; refine de_if ?_; refine dt_val ?_; (refine de_name (by with_reducible assumption) (by with_reducible assumption) (by (with_reducible exact Nm.vis (k := .local) (by assumption) rfl)) (by rfl) (by (((with_reducible (exact imm_bl)); done))) ?_); (with_reducible refine ex_bl ?_); refine br_F (by assumption) ?_; fold_depth; k_upd; fold_depth; allgen_close_more))
                  refine GetS.seq rfl rfl hat imm_int ?_
                  skip
                  refine GetS.seq rfl rfl hnat ihq ?_
                  (focus (refine da_nil ?_; ((with_reducible refine' ex_takes ?exa ?_); (case exa => ((apply Takes.cons Take.v; exact Takes.nil)))); k_clsL; (refine AddS.tup (by rfl) (by rfl) (by (((with_reducible (refine imm_app ?_ ?_; refine imm_cons ?_ ?_; exact imm_str; assumption; refine imm_cons ?_ ?_; assumption; exact imm_nil)); done))) (by ((rw [sizeLine_eq]; simp; omega))) ?_); kaf_suf; refine db_nil ?_))
                  refine ⟨some (.int (1 + (k2 : Int))), some (.bl false), ?_⟩
                  rw [hin, ← tk _ hRq]
                  rfl
                · have e1 : decide (V.int (1 + (k2 : Int)) = V.int 1) = false := by simp; omega
                  (focus (fold_lay; allgen_close2_more; cell_call; refine de_and ?_; refine de_eqQ (by with_reducible assumption) ?_; allgen_close_more; refine de_int ?_; refine EqQ.l (L2s.mk (by rfl) (by rfl) ?_); refine And.intro (show scal _ _ = true by rfl) ?_; (with_reducible refine ex_bl ?_); refine br_F (by assumption) ?_; kaf_suf; allgen_close2_more; cell_call; refine de_add ?_; k_caughtNB; refine de_tup ?_; k_ownIn; k_upd; refine de_if ?_; refine dt_val ?_; (refine de_name (by with_reducible assumption) (by with_reducible assumption) (by (with_reducible exact Nm.vis (k := .local) (by assumption) rfl)) (by rfl) (by (((with_reducible (exact imm_bl)); done))) ?_); (with_reducible refine ex_bl ?_); refine br_false ?_; fold_depth; k_upd; fold_depth; allgen_close_more))
                  refine GetS.seq rfl rfl hat imm_int ?_
                  skip
                  refine GetS.seq rfl rfl hnat ihq ?_
                  (focus (refine da_nil ?_; ((with_reducible refine' ex_takes ?exa ?_); (case exa => ((apply Takes.cons Take.v; exact Takes.nil)))); k_clsL; (refine AddS.tup (by rfl) (by rfl) (by (((with_reducible (refine imm_app ?_ ?_; refine imm_cons ?_ ?_; exact imm_str; assumption; refine imm_cons ?_ ?_; assumption; exact imm_nil)); done))) (by ((rw [sizeLine_eq]; simp; omega))) ?_); kaf_suf; refine db_nil ?_))
                  refine ⟨some (.int (1 + (k2 : Int))), some (.bl false), ?_⟩
                  rw [← tk _ hRq]
                  rfl
            · rintro δ2 ⟨y16, y17, rfl⟩
              rw [rngD_len, egl, ← Wl, List.take_length]
              have eW2 : D.tup (D.str r.nm :: W) = whatD l.rsp l.wsp r := by rw [whatD_wa, hW]
              rw [eW2]
              have iwr := whatD_imm l.rsp l.wsp r
              have isp := pairD_imm s
              have hat2 : atI (l.rsp.map pairD) ((m : Nat) : Int) = some (pairD s) := atI_map (by omega) (by rw [Int.toNat_natCast]; exact hs)
              have szc : ((((l.rsp.zip p.rows).take m).map fun c => ((c.1, whatD l.rsp l.wsp c.2) : Cell)).map cellD).length < sizeLine := by rw [List.length_map, List.length_map, List.length_take, List.length_zip, sizeLine_eq]; omega
              (focus (allgen_close2_more; refine ds_expr ?_; refine de_appendQ ?_; isplit; refine And.intro (show IsLst _ _ from ⟨_, (by rfl)⟩) ?_; k_ownIn; refine de_tup ?_; k_ownIn; k_upd; fold_depth; (refine de_name (by with_reducible assumption) (by with_reducible assumption) (by (with_reducible exact Nm.vis (k := .cell) (by assumption) rfl)) (by rfl) (by (((with_reducible (exact imm_int)); done))) ?_)))
              refine GetS.seq rfl rfl hat2 isp ?_
              (focus (k_ownIn; fold_depth; refine da_nil ?_; kaf_pre; k_clsL; refine da_nil ?_; (with_reducible refine ex_1v ?_); refine AppQ.mk (by rfl) (by (with_reducible assumption)) ?_; refine db_nil ?_))
              refine ⟨some (.int m), some r.d, some (whatD l.rsp l.wsp r), y16, y17, ?_⟩
              rw [List.take_add_one, hz, List.map_append, List.map_append]
              rfl
          · rintro δ2 ⟨y13, y14, y15, y16, y17, rfl⟩
            rw [enD_len, List.length_map]
            have e5 : (l.rsp.zip p.rows).take p.rows.length = l.rsp.zip p.rows := List.take_of_length_le (by rw [List.length_zip]; omega)
            rw [e5]
            have eR : (l.rsp.zip p.rows).map (fun c => ((c.1, whatD l.rsp l.wsp c.2) : Cell)) = rowCells l.rsp l.wsp p.rows := rfl
            rw [eR]
            have ia : ∀ x ∈ p.ws.map D.int, Imm x := imm_map fun _ => imm_int
            have zl : (rowCells l.rsp l.wsp p.rows).length ≤ 40 := by unfold rowCells; rw [List.length_map, List.length_zip]; omega
            (focus (allgen_close2_more))
            refine ds_for (by assumption) (di_enum (by assumption) (by assumption) (by walk_at "nm") (by assumption) ?_)
            (focus (k_ownIn; k_upd; k_updF; refine de_int ?_; (refine GetS.seq (by rfl) (by rfl) (by rfl) (by (((with_reducible (refine imm_tup ?_; assumption)); done))) ?_); refine da_nil ?_; (with_reducible refine ex_one ?_); (refine SeqS.seq (by rfl) (by rfl) (by (((with_reducible (assumption)); done))) ?_)))
            refine ⟨rfl, fun m δ => ∃ y13 y18 y23 : Option D, δ = [some (.fz (sc.map .int)), some g2.d, some (.int (0 + (i : Nat))), some (.tup [.tup (p.ws.map .int), .tup (p.rows.map Row.d)]), some (.int l.wide), some (.tup (l.pl.map .int)), some (.tup (l.hm.map homeD)), some (.fz (l.rsp.map pairD)), some (.lst ((takenL l.wide (l.pl ++ l.hm.flatten)).map .int)), some (.fz (l.wsp.map wspD)), y10, y11, some (.lst ((rowCells l.rsp l.wsp p.rows ++ ((l.wsp.zip p.ws).take m).flatMap fun c => c.1.map fun s => (s, worthD c.2)).map cellD)), y13, y14, y15, y16, y17, y18, x19, x20, x21, x22, y23], ⟨_, _, _, by rw [List.take_zero, List.flatMap_nil, List.append_nil]⟩, ?_, ?_⟩
            · rintro m d δ2 hd7 ⟨y13, y18, y23, rfl⟩
              obtain ⟨d, hd8, rfl⟩ := enD_get hd7
              obtain ⟨n, hn2, rfl⟩ := map_get hd8
              have hmw : m < p.ws.length := (List.getElem?_eq_some_iff.mp hn2).1
              obtain ⟨h, hh⟩ : ∃ h, l.wsp[m]? = some h := ⟨_, List.getElem?_eq_getElem (by omega)⟩
              have hz : (l.wsp.zip p.ws)[m]? = some (h, n) := List.getElem?_zip_eq_some.mpr ⟨hh, hn2⟩
              have ihd := wspD_imm h
              have ihs : ∀ x ∈ h.map pairD, Imm x := imm_map pairD_imm
              have lh : h.length ≤ 3 := l.wsp_each okl (List.mem_of_getElem? hh)
              have hat : atI (l.wsp.map wspD) ((m : Nat) : Int) = some (wspD h) := atI_map (by omega) (by rw [Int.toNat_natCast]; exact hh)
              refine ⟨[18, 13], ?_⟩
              (focus (refine dg_tup (by with_reducible assumption) ?_; refine dgs_name ?_; fold_lay; refine dgs_name ?_; refine dg_name (by with_reducible assumption) (by with_reducible assumption) (by (exact Nm.stoC (by with_reducible assumption) (by assumption))) (by (exact unp_of (by with_reducible assumption) (by rfl))) ?_; refine dgs_nil ?_; allgen_close2_more; refine ds_expr ?_; refine de_extend ?_; isplit; refine And.intro (show IsLst _ _ from ⟨_, (by rfl)⟩) ?_; k_ownIn))
              refine de_lcG (own := [("_law_spot", 23)]) (by assumption) (by walk_at "blk") (by walk_at "pins") (di_seq ?_)
              (focus (k_upd; fold_depth; allgen_close_more))
              refine GetS.seq rfl rfl hat ihd ?_
              refine SeqS.seq (ds := h.map pairD) rfl rfl ihs ?_
              refine lc_mapB h pairD (fun s => cellD (s, worthD n)) rfl rfl rfl (by rw [sizeLine_eq]; omega) (fun j s hs => ?_) ?_
              · have isp := pairD_imm s
                unfold Turn1
                (focus (k_caughtB; k_intsEnd; k_caughtB; refine dts_nil ?_; refine br_true ?_; k_caughtB; refine de_tup ?_; k_ownIn; (refine de_name (by with_reducible assumption) (by with_reducible assumption) (by (exact Nm.vis (k := .local) (by exact rfl) rfl)) (by rfl) (by (((with_reducible (assumption)); done))) ?_); k_ownIn; refine de_tup ?_; k_ownIn; refine de_str ?_; k_ownIn; (refine de_name (by with_reducible assumption) (by with_reducible assumption) (by (exact Nm.vis (k := .cell) (by exact rfl) rfl)) (by rfl) (by (((with_reducible (exact imm_int)); done))) ?_); refine da_nil ?_; kaf_pre; k_clsL; refine da_nil ?_; kaf_pre; k_clsL; kaf_suf))
                exact ⟨rfl, rfl⟩
              · have lz : ((l.wsp.zip p.ws).take m).length ≤ 8 := by rw [List.length_take, List.length_zip]; omega
                have lc := worthCells_len (zs := (l.wsp.zip p.ws).take m) fun c m => l.wsp_each okl (List.of_mem_zip (a := c.1) (b := c.2) (List.mem_of_mem_take m)).1
                (focus (refine da_nil ?_; (with_reducible refine ex_one ?_)))
                refine ExtS.s rfl rfl (imm_map fun s => cellD_imm (c := (s, worthD n)) (worthD_imm _)) (by rw [List.length_map, List.length_map, List.length_append, sizeLine_eq]; omega) ?_
                (focus (refine db_nil ?_))
                refine ⟨some (.int n), some (.int m), none, ?_⟩
                rw [List.take_add_one, hz]
                simp [List.flatMap_append, List.map_map]
                try rfl
            · rintro δ2 ⟨y13, y18, y23, rfl⟩
              rw [enD_len, List.length_map]
              have e6 : (l.wsp.zip p.ws).take p.ws.length = l.wsp.zip p.ws := List.take_of_length_le (by rw [List.length_zip]; omega)
              rw [e6]
              have eC : rowCells l.rsp l.wsp p.rows ++ ((l.wsp.zip p.ws).flatMap fun c => c.1.map fun s => (s, worthD c.2)) = cellsOf p l := rfl
              rw [eC]
              have icl := cells_len okp okl
              have icc : ∀ c ∈ cellsOf p l, Imm c.2 := cellsOf_imm
              have eIm : imageL p l = (ordC (cellsOf p l)).map (·.1) := (ordC_fst _).symm
              have hpmI := image_pm okp okl
              generalize hcs : cellsOf p l = cs at *
              have imc : ∀ x ∈ cs.map cellD, Imm x := by
                intro x m
                obtain ⟨c, mc, rfl⟩ := List.mem_map.mp m
                exact cellD_imm (icc c mc)
              (focus (allgen_close2_more; cell_call; refine de_sorted (by with_reducible assumption) (by with_reducible assumption) (by with_reducible assumption) (by (with_reducible assumption)) (by with_reducible assumption) ?_; k_ownIn))
              refine de_lcG (own := [("_law_k", 16)]) (by assumption) (by walk_at "blk") (by walk_at "pins") (di_range (by assumption) (by assumption) (by walk_at "nm") (by assumption) ?_)
              (focus (k_ownIn; k_caughtN0; k_ownIn; isplit; refine da_nil ?_; refine LenQ.s (LenS.seq (by rfl) (by rfl) ?_); refine da_nil ?_; refine ⟨_, (by rfl), ?_⟩))
              refine ⟨⟨by omega, by rw [List.length_map]; omega⟩, ?_⟩
              refine lc_mapB (List.range cs.length) (fun i => D.int (0 + (i : Nat))) (fun k => ordD (cs.getD k ((0, 0), .non), k)) (by rw [List.length_map, Int.toNat_natCast]; rfl) rfl (by rfl) (by rw [List.length_range, sizeLine_eq]; omega) (fun m k hk => ?_) ?_
              · have hk2 : k < cs.length := List.mem_range.mp (List.mem_of_getElem? hk)
                obtain ⟨c, hc⟩ : ∃ c, cs[k]? = some c := ⟨_, List.getElem?_eq_getElem hk2⟩
                have ec : cs.getD k ((0, 0), .non) = c := by rw [List.getD_eq_getElem?_getD, hc]; rfl
                have hat : atI (cs.map cellD) (0 + (k : Nat)) = some (cellD c) := by rw [Int.zero_add]; exact atI_map (by omega) (by rw [Int.toNat_natCast]; exact hc)
                have icd := cellD_imm (icc c (List.mem_of_getElem? hc))
                have icp := pairD_imm c.1
                have icw := icc c (List.mem_of_getElem? hc)
                rw [ec]
                unfold Turn1
                (focus (k_caughtB; k_intsEnd; k_caughtB; refine dts_nil ?_; refine br_true ?_; k_caughtB; refine de_tup ?_; k_ownIn; k_upd; k_upd; kat_tups; k_places))
                refine GetS.seq rfl rfl hat icd ?_
                unfold cellD
                (focus (refine de_int ?_; (refine GetS.seq (by rfl) (by rfl) (by rfl) (by (((with_reducible (assumption)); done))) ?_); k_ownIn; k_places; refine da_nil ?_; kaf_pre; k_clsL; kaf_suf))
                exact ⟨by rw [Int.zero_add]; rfl, rfl⟩
              · rw [zipIdx_D]
                (focus (refine da_nil ?_))
                refine SrtS.os (os := cs.zipIdx.map toO) (by rw [toO_map]; rfl) (b := false) (toO_srtb cs) ?_
                rw [order_eq, toO_map]
                have iod : ∀ x ∈ (ordC cs).map ordD, Imm x := imm_map fun c => imm_tup (imm_cons (pairD_imm _) (imm_cons imm_int imm_nil))
                have ol : (ordC cs).length ≤ 100 := by rw [(ordC_perm cs).length_eq, List.length_zipIdx]; omega
                have hr0 := okp.r0
                have at0 := spotAt_get (rs := l.rsp) (x := 0) ⟨by omega, by omega⟩
                have is0 := pairD_imm (spotAt l.rsp 0)
                (focus (kaf_suf; allgen_close2_more; cell_call; refine de_tup ?_; k_ownIn; allgen_close_more; k_ownIn; k_upd; fold_depth; refine de_int ?_))
                refine GetS.seq rfl rfl at0 is0 ?_
                (focus (k_ownIn))
                refine de_lcS (own := [("_law_spot", 23), ("_law_k", 16)]) (by assumption) (by walk_at "blk") (by walk_at "pins") (di_seq ?_)
                (focus (bits_by_make; (refine SeqS.seq (by rfl) (by rfl) (by (((with_reducible (assumption)); done))) ?_)))
                refine lc_mapAS (ordC cs) ordD (fun c => cellD c.1) 19 rfl rfl (by decide) (by rw [sizeLine_eq]; omega) (fun m c hc => ?_) ?_
                · have hg := ordC_get (List.mem_of_getElem? hc)
                  have hat : atI (cs.map cellD) ((c.2 : Nat) : Int) = some (cellD c.1) := atI_map (by omega) (by rw [Int.toNat_natCast]; exact hg)
                  have icd := cellD_imm (icc c.1 (List.mem_of_getElem? hg))
                  have icp := pairD_imm c.1.1
                  unfold Turn1 ordD
                  (focus (k_caughtB; refine dg_tup (by with_reducible assumption) ?_; refine dgs_name ?_; k_intsEnd; refine dgs_name ?_; k_intsEnd; refine dgs_nil ?_; k_caughtB; refine dts_nil ?_; refine br_true ?_; k_caughtB; k_upd; kat_tups; k_places))
                  refine GetS.seq rfl rfl hat icd ?_
                  (focus (kaf_suf))
                  exact ⟨rfl, rfl⟩
                · have eI : (ordC cs).map (fun c => cellD c.1) = (imageL p l).map cellD := by rw [eIm, List.map_map]; rfl
                  rw [eI]
                  have eD : D.tup [.int l.wide, pairD (spotAt l.rsp 0), .lst ((imageL p l).map cellD)] = imageD p l := rfl
                  have iil : (imageL p l).length ≤ 100 := by rw [eIm, List.length_map]; exact ol
                  have e3 : 0 < (takenL l.wide (l.pl ++ l.hm.flatten)).length := by rw [takenL_len]; omega
                  (focus (refine da_nil ?_; k_subL; k_clsL; kaf_suf; allgen_close2_more))
                  refine ds_for (by assumption) (di_range (by assumption) (by assumption) (by walk_at "nm") (by assumption) ?_)
                  (focus (k_ownIn; refine de_int ?_; refine da_nil ?_; refine ⟨_, (by rfl), ?_⟩; kas_types))
                  refine ⟨rfl, fun m δ => ∃ y21 y22 : Option D, δ = [some (.fz (sc.map .int)), some g2.d, some (.int (0 + (i : Nat))), some (.tup [.tup (p.ws.map .int), .tup (p.rows.map Row.d)]), some (.int l.wide), some (.tup (l.pl.map .int)), some (.tup (l.hm.map homeD)), some (.fz (l.rsp.map pairD)), some (.lst ((takenL l.wide (l.pl ++ l.hm.flatten)).map .int)), some (.fz (l.wsp.map wspD)), y10, y11, some (.lst (cs.map cellD)), y13, y14, y15, none, y17, y18, some (.lst ((ordC cs).map ordD)), some (imageD p l), y21, y22, none], ⟨_, _, rfl⟩, ?_, ?_⟩
                  · rintro m d δ2 hd9 ⟨y21, y22, rfl⟩
                    obtain ⟨hm, rfl⟩ := rngD_get hd9
                    refine ⟨[21], ?_⟩
                    have G6 := hG ()
                    (focus (fold_lay; allgen_close2_more; cell_call; (refine de_callT (by with_reducible assumption) (by with_reducible assumption) (by with_reducible assumption) ?hroom (by (with_reducible assumption)) (by with_reducible assumption) (by with_reducible assumption) ?_; (case hroom => (exact Room.mono (by assumption) (by decide)))); k_ownIn; k_updF; k_ownIn; refine de_tup ?_; k_ownIn; allgen_close_more; k_ownIn; (refine de_name (by with_reducible assumption) (by with_reducible assumption) (by (with_reducible exact Nm.vis (k := .cell) (by assumption) rfl)) (by rfl) (by (((with_reducible (refine imm_tup ?_; assumption)); done))) ?_); k_ownIn; k_caught0; refine da_nil ?_; k_subL; k_clsL; refine da_nil ?_; ((with_reducible refine' ex_call ?exa ?exb ?exc ?_); (case exa => (rfl)); (case exb => rfl); (case exc => exact List.nodup_nil)); refine ⟨_, _, rfl, (by with_reducible assumption), ?_⟩; k_offL; kaf_suf; allgen_close2_more; refine ds_if ?_; refine dt_pw (dw_or ?_); refine dt_not ?_; refine dt_val ?_; got_up; k_ownIn; bits_by_make; k_ownIn; bits_by_make; refine da_nil ?_; k_allIn; refine ⟨_, (by rfl), ?_⟩; k_offL; (with_reducible refine ex_bl ?_); refine br_rev ?_; refine br_sw ?_; refine br_true ?_; refine dw_or1 ?_; refine dt_not ?_; refine dt_val ?_; got_up; k_ownIn; got_up; k_ownIn; k_updF; k_ownIn; refine de_tup ?_; k_ownIn; allgen_close_more; k_ownIn; (refine de_name (by with_reducible assumption) (by with_reducible assumption) (by (with_reducible exact Nm.vis (k := .cell) (by assumption) rfl)) (by rfl) (by (((with_reducible (refine imm_tup ?_; assumption)); done))) ?_); k_ownIn; k_caught0; refine da_nil ?_; k_subL; k_clsL; refine da_nil ?_; ((with_reducible refine' ex_call ?exa ?exb ?exc ?_); (case exa => (rfl)); (case exb => rfl); (case exc => exact List.nodup_nil)); refine ⟨_, _, rfl, (by with_reducible assumption), ?_⟩; k_offL; k_ownIn; refine de_maxL (by with_reducible assumption) (by with_reducible assumption) (by (with_reducible assumption)) (by with_reducible assumption) ?_; k_ownIn; isplit; refine da_nil ?_; refine IntsS.mk (by rfl) ?_; k_offL))
                    intro mm hm1 hm2
                    have em : mm = l.top := hiL_uniq hm1 hm2
                    subst em
                    (focus (refine da_nil ?_; ((with_reducible refine' ex_call ?exa ?exb ?exc ?_); (case exa => (rfl)); (case exb => rfl); (case exc => exact List.nodup_nil)); refine ⟨_, (by rfl), ?_⟩))
                    refine ⟨.int, ?_⟩
                    have szI : ((imageL p l).map cellD).length < sizeLine := by rw [List.length_map, sizeLine_eq]; omega
                    (focus ((with_reducible refine ex_bl ?_); refine br_sw ?_; refine br_true ?_; refine db_nil ?_; allgen_close2_more; refine ds_expr ?_; refine de_appendQ ?_; k_upd; bits_by_make; refine de_int ?_))
                    refine GetS.seqs (j := 2) rfl rfl rfl rfl (fun u2 => ?_)
                    (focus (refine And.intro (show IsLst _ _ from ⟨_, (by exact rsv_p (by rfl))⟩) ?_; k_ownIn; refine de_tup ?_; refine da_nil ?_; ((with_reducible refine' ex_takes ?exa ?_); (case exa => ((exact Takes.nil)))); refine And.intro (show _ ≤ sizeLine by (decide)) ?_; refine da_nil ?_; (with_reducible refine ex_1v ?_); refine AppQ.mk (by exact rsv_p (by rfl)) (by (with_reducible assumption)) ?_; refine db_nil ?_))
                    exact ⟨_, _, rfl⟩
                  · rintro δ2 ⟨y21, y22, rfl⟩
                    (focus (refine db_nil ?_))
                    exact ⟨g2, _, _, _, _, _, _, _, _, _, _, _, _, _, _, _, _, _, _, _, _, _, _, ok2, rfl⟩
  · rintro δ2 ⟨g, x2, x3, x4, x5, x6, x7, x8, x9, x10, x11, x12, x13, x14, x15, x16, x17, x18, x19, x20, x21, x22, x23, okg, rfl⟩
    (focus (allgen_close2_more; refine ds_ret ?_; refine de_bl ?_; kaf_suf))
    exact ⟨_, k⟩
end
theorem all_mk : AllMk := by
  intro l w K h mg fa c_image P_image t_MOST_NUMBER t_MOST_WORTHS t_MOST_ROWS t_LEAST_WIDE t_MOST_WIDE t_MOST_HOMES a_SHAPES es_SHAPES n_SHAPES X G hfa F_is_number F_why_row F_need_program F_need_wide F_is_home F_need_laying F_spots F_cell_of F_image F_tracks F_l_dice F_l_next F_l_like F_l_straight F_l_fork F_l_body F_l_mixed F_l_stopping F_l_any F_l_laying F_law b_isinstance b_int b_bool b_tuple b_str b_len b_zip b_enumerate b_list b_range b_sum b_sorted b_max b_min b_set hT_image v_MOST_NUMBER v_MOST_WORTHS v_MOST_ROWS v_LEAST_WIDE v_MOST_WIDE v_MOST_HOMES k_SHAPES l_SHAPES lit_SHAPES low_SHAPES tab_SHAPES
  have m_isinstance := PySem.W.mg_none_of X G b_isinstance
  have m_int := PySem.W.mg_none_of X G b_int
  have m_bool := PySem.W.mg_none_of X G b_bool
  have m_tuple := PySem.W.mg_none_of X G b_tuple
  have m_str := PySem.W.mg_none_of X G b_str
  have m_len := PySem.W.mg_none_of X G b_len
  have m_zip := PySem.W.mg_none_of X G b_zip
  have m_enumerate := PySem.W.mg_none_of X G b_enumerate
  have m_list := PySem.W.mg_none_of X G b_list
  have m_range := PySem.W.mg_none_of X G b_range
  have m_sum := PySem.W.mg_none_of X G b_sum
  have m_sorted := PySem.W.mg_none_of X G b_sorted
  have m_max := PySem.W.mg_none_of X G b_max
  have m_min := PySem.W.mg_none_of X G b_min
  have m_set := PySem.W.mg_none_of X G b_set
  have c_MOST_NUMBER : GlobD K mg "MOST_NUMBER" (.int 1000000) := globD_mk (v := .int 1000000) X G v_MOST_NUMBER ⟨_, rfl⟩ rfl
  have c_MOST_WORTHS : GlobD K mg "MOST_WORTHS" (.int 8) := globD_mk (v := .int 8) X G v_MOST_WORTHS ⟨_, rfl⟩ rfl
  have c_MOST_ROWS : GlobD K mg "MOST_ROWS" (.int 40) := globD_mk (v := .int 40) X G v_MOST_ROWS ⟨_, rfl⟩ rfl
  have c_LEAST_WIDE : GlobD K mg "LEAST_WIDE" (.int 2) := globD_mk (v := .int 2) X G v_LEAST_WIDE ⟨_, rfl⟩ rfl
  have c_MOST_WIDE : GlobD K mg "MOST_WIDE" (.int 24) := globD_mk (v := .int 24) X G v_MOST_WIDE ⟨_, rfl⟩ rfl
  have c_MOST_HOMES : GlobD K mg "MOST_HOMES" (.int 3) := globD_mk (v := .int 3) X G v_MOST_HOMES ⟨_, rfl⟩ rfl
  have S_SHAPES : KD K w mg "SHAPES" shapes := kd_mk X G k_SHAPES l_SHAPES lit_SHAPES low_SHAPES tab_SHAPES
  have FT_image := F_image
  obtain ⟨_, _, _, _, _, hd_image, nT_image⟩ := FT_image
  obtain ⟨f, fd, a, F⟩ := F_law
  have e := hfa.symm.trans (PySem.W.mg_of X G a)
  cases e
  have z1 : ∀ p ∈ [(c_image, P_image)], h.get? p.2 = some { cls := .none, data := .fields #[] } := fun p hp => by
    simp only [List.mem_cons, List.not_mem_nil, or_false] at hp
    rcases hp with rfl
    · exact hT_image
  have z2 : ∀ p ∈ [(c_image, P_image)], K.lookup p.2 = none := fun p hp => by
    simp only [List.mem_cons, List.not_mem_nil, or_false] at hp
    rcases hp with rfl
    · exact nT_image
  have z3 : ∀ p ∈ [(c_image, P_image)], PySem.W.CodeHd h p.1 p.2 := fun p hp => by
    simp only [List.mem_cons, List.not_mem_nil, or_false] at hp
    rcases hp with rfl
    · exact PySem.W.codeHd_of_K X hd_image
  refine ⟨fd, [(c_image, P_image)], spL2 K [(P_image, lamQ "image")] preLaw, z1, z2, z3, fun s v => Fun.bindsTo F (fun _ _ _ _ _ _ v => rfl) s v, fun H a ns hl _ hT hS => spL2_law hl (fun p hp => by
    simp only [List.mem_cons, List.not_mem_nil, or_false] at hp
    rcases hp with rfl
    · exact hT (c_image, P_image) (by simp)) hS _, fun base _ _ TBs => ?_⟩
  have TB_image := TBs (c_image, P_image) (by simp)
  have G_is_number : GFn l.prog w K mg base 1 "is_number" 1 (preIsNum) := F_is_number.g (ps := p_is_number) X G (fun f fd F => F.binds (ps := p_is_number) fun _ _ _ _ _ _ us hl => by obtain ⟨_, rfl⟩ := ux1 hl; rfl) rfl (fun f fd F => ok_is_number F m_isinstance m_int m_bool)
  have G_why_row : GFn l.prog w K mg base 2 "why_row" 3 (preWhyOk) := F_why_row.g (ps := p_why_row) X G (fun f fd F => F.binds (ps := p_why_row) fun _ _ _ _ _ _ us hl => by obtain ⟨_, _, _, rfl⟩ := ux3 hl; rfl) rfl (fun f fd F => ok_why_row F m_isinstance m_tuple m_str m_len m_zip S_SHAPES G_is_number)
  have G_need_program : GFn l.prog w K mg base 3 "need_program" 1 (preNeedOk) := F_need_program.g (ps := p_need_program) X G (fun f fd F => F.binds (ps := p_need_program) fun _ _ _ _ _ _ us hl => by obtain ⟨_, rfl⟩ := ux1 hl; rfl) rfl (fun f fd F => ok_need_program F m_len m_enumerate c_MOST_WORTHS c_MOST_ROWS c_MOST_NUMBER G_why_row)
  have G_need_wide : GFn l.prog w K mg base 1 "need_wide" 1 (preWide) := F_need_wide.g (ps := p_need_wide) X G (fun f fd F => F.binds (ps := p_need_wide) fun _ _ _ _ _ _ us hl => by obtain ⟨_, rfl⟩ := ux1 hl; rfl) rfl (fun f fd F => ok_need_wide F c_LEAST_WIDE c_MOST_WIDE)
  have G_is_home : GFn l.prog w K mg base 1 "is_home" 2 (preIsHome) := F_is_home.g (ps := p_is_home) X G (fun f fd F => F.binds (ps := p_is_home) fun _ _ _ _ _ _ us hl => by obtain ⟨_, _, rfl⟩ := ux2 hl; rfl) rfl (fun f fd F => ok_is_home F m_len m_sorted m_set m_list c_MOST_HOMES)
  have G_need_laying : GFn l.prog w K mg base 2 "need_laying" 2 (preNeedLay) := F_need_laying.g (ps := p_need_laying) X G (fun f fd F => F.binds (ps := p_need_laying) fun _ _ _ _ _ _ us hl => by obtain ⟨_, _, rfl⟩ := ux2 hl; rfl) rfl (fun f fd F => ok_need_laying F m_len m_enumerate G_need_wide G_is_home)
  have G_spots : GFn l.prog w K mg base 1 "spots" 2 (preSpots) := F_spots.g (ps := p_spots) X G (fun f fd F => F.binds (ps := p_spots) fun _ _ _ _ _ _ us hl => by obtain ⟨_, _, rfl⟩ := ux2 hl; rfl) rfl (fun f fd F => ok_spots F m_tuple m_max)
  have G_cell_of : GFn l.prog w K mg base 1 "cell_of" 3 (preCellOf) := F_cell_of.g (ps := p_cell_of) X G (fun f fd F => F.binds (ps := p_cell_of) fun _ _ _ _ _ _ us hl => by obtain ⟨_, _, _, rfl⟩ := ux3 hl; rfl) rfl (fun f fd F => ok_cell_of F m_tuple m_zip S_SHAPES)
  have GT_image : GFnT l.prog w K mg base [(P_image, lamQ "image")] 5 "image" 2 preImage := F_image.gT (ps := p_image) X G (fun f fd F => F.binds (ps := p_image) fun _ _ _ _ _ _ us hl => by obtain ⟨_, _, rfl⟩ := ux2 hl; rfl) rfl (fun f fd F FC => ok_image (C := sysModules) FC TB_image m_zip m_sorted G_need_program G_need_laying G_spots G_cell_of)
  have G_tracks : GFn l.prog w K mg base 4 "tracks" 2 (preTracks) := F_tracks.g (ps := p_tracks) X G (fun f fd F => F.binds (ps := p_tracks) fun _ _ _ _ _ _ us hl => by obtain ⟨_, _, rfl⟩ := ux2 hl; rfl) rfl (fun f fd F => ok_tracks F G_need_program G_need_laying G_spots)
  have G_l_dice : GFn l.prog w K mg base 1 "_law_dice" 1 (preDice) := F_l_dice.g (ps := p_l_dice) X G (fun f fd F => F.binds (ps := p_l_dice) fun _ _ _ _ _ _ us hl => by obtain ⟨_, rfl⟩ := ux1 hl; rfl) rfl (fun f fd F => ok_dice F m_len m_int)
  have G_l_next : GFn l.prog w K mg base 1 "_law_next" 2 (preNext) := F_l_next.g (ps := p_l_next) X G (fun f fd F => F.binds (ps := p_l_next) fun _ _ _ _ _ _ us hl => by obtain ⟨_, _, rfl⟩ := ux2 hl; rfl) rfl (fun f fd F => ok_next F m_len)
  have G_l_like : GFn l.prog w K mg base 7 "_law_like" 2 (preLikeM 6) := by
    obtain ⟨f, fd, a, F⟩ := F_l_like
    have hb : Binds K fd p_l_like [] := F.binds (ps := p_l_like) fun _ _ _ _ _ _ us hl => by obtain ⟨_, _, rfl⟩ := ux2 hl; rfl
    exact ⟨⟨f, fd, p_l_like, PySem.W.mg_of X G a, F.kp, hb, ok_like F m_len m_isinstance m_bool m_str m_int m_tuple m_list m_range (PySem.W.mg_of X G a) F.kp hb 6⟩⟩
  have G_l_straight : GFn l.prog w K mg base 2 "_law_straight" 2 (preStraight) := F_l_straight.g (ps := p_l_straight) X G (fun f fd F => F.binds (ps := p_l_straight) fun _ _ _ _ _ _ us hl => by obtain ⟨_, _, rfl⟩ := ux2 hl; rfl) rfl (fun f fd F => ok_straight F G_l_next)
  have G_l_fork : GFn l.prog w K mg base 3 "_law_fork" 2 (preFork) := F_l_fork.g (ps := p_l_fork) X G (fun f fd F => F.binds (ps := p_l_fork) fun _ _ _ _ _ _ us hl => by obtain ⟨_, _, rfl⟩ := ux2 hl; rfl) rfl (fun f fd F => ok_fork F m_len m_range G_l_next G_l_straight)
  have G_l_body0 : GFn l.prog w K mg base 4 "_law_body" 3 (preBody 0) := F_l_body.g (ps := p_l_body) X G (fun f fd F => F.binds (ps := p_l_body) fun _ _ _ _ _ _ us hl => by obtain ⟨_, _, _, rfl⟩ := ux3 hl; rfl) rfl (fun f fd F => ok_body F m_len m_range G_l_next G_l_straight G_l_fork 0 0 (.inl rfl) (by decide))
  have G_l_body1 : GFn l.prog w K mg base 5 "_law_body" 3 (preBody 1) := F_l_body.g (ps := p_l_body) X G (fun f fd F => F.binds (ps := p_l_body) fun _ _ _ _ _ _ us hl => by obtain ⟨_, _, _, rfl⟩ := ux3 hl; rfl) rfl (fun f fd F => ok_body F m_len m_range G_l_next G_l_straight G_l_fork 1 1 (.inr G_l_body0) (by decide))
  have G_l_body2 : GFn l.prog w K mg base 6 "_law_body" 3 (preBody 2) := F_l_body.g (ps := p_l_body) X G (fun f fd F => F.binds (ps := p_l_body) fun _ _ _ _ _ _ us hl => by obtain ⟨_, _, _, rfl⟩ := ux3 hl; rfl) rfl (fun f fd F => ok_body F m_len m_range G_l_next G_l_straight G_l_fork 2 2 (.inr G_l_body1) (by decide))
  have G_l_mixed : GFn l.prog w K mg base 2 "_law_mixed" 2 (preMixed) := F_l_mixed.g (ps := p_l_mixed) X G (fun f fd F => F.binds (ps := p_l_mixed) fun _ _ _ _ _ _ us hl => by obtain ⟨_, _, rfl⟩ := ux2 hl; rfl) rfl (fun f fd F => ok_mixed F m_len m_range m_list m_enumerate m_tuple G_l_next)
  have G_l_stopping : GFn l.prog w K mg base 7 "_law_stopping" 2 (preStopping) := F_l_stopping.g (ps := p_l_stopping) X G (fun f fd F => F.binds (ps := p_l_stopping) fun _ _ _ _ _ _ us hl => by obtain ⟨_, _, rfl⟩ := ux2 hl; rfl) rfl (fun f fd F => ok_stopping F m_len m_range m_tuple G_l_next G_l_straight G_l_body2 G_l_mixed)
  have G_l_any : GFn l.prog w K mg base 8 "_law_any" 1 (preAny) := F_l_any.g (ps := p_l_any) X G (fun f fd F => F.binds (ps := p_l_any) fun _ _ _ _ _ _ us hl => by obtain ⟨_, rfl⟩ := ux1 hl; rfl) rfl (fun f fd F => ok_any F m_int m_range m_tuple G_l_next G_l_stopping)
  have G_l_laying : GFn l.prog w K mg base 2 "_law_laying" 3 (preLLayT) := F_l_laying.g (ps := p_l_laying) X G (fun f fd F => F.binds (ps := p_l_laying) fun _ _ _ _ _ _ us hl => by obtain ⟨_, _, _, rfl⟩ := ux3 hl; rfl) rfl (fun f fd F => ok_l_layingT F m_tuple m_range m_sorted m_set G_l_next)
  exact ok_law F m_range m_enumerate m_tuple m_len m_sorted m_max G_l_dice G_l_any G_l_laying G_l_like G_tracks GT_image
end Dl

theorem PySem.Challenge.cw_drumlay_k15_what_stands_there_holds : PySem.Challenge.rw_drumlay_k15_what_stands_there.Holds :=
  Dl.main_of Dl.all_mk
