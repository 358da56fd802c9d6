import PyProof.Rows.All
import Wide.All
import OpenK.AllK
import Wide.FinOn
import HandS.ForMost
import HandS.ForExc
import HandS.TupAny
import HandS.TupMul
import HandS.Deep
import HandS.Walk
import HandS.Conv
import HandS.SortInts
import HandS.RaiseMore
import HandS.Flow
import KE.GoesMore
import KE.GoesEnum
import HandS.More
import HandS.IsInst
import HandS.Text
import KE.IntTextLaws
import HandS.Codes
import HandS.Ends
import PySem.Challenge.RW_drumlay_k20_texts
set_option Elab.async false
set_option linter.all false
set_option maxRecDepth 100000
set_option maxHeartbeats 4000000
set_option autoImplicit false
namespace Dl
open PySem L2

/-! ### data -/
inductive D where
  | non | bl (b : Bool) | int (i : Int) | str (s : Str) | opq (v : V)
  | tup (xs : List D) | lst (xs : List D) | fz (xs : List D)
  | dK (kvs : List (Key × D)) | dT (kvs : List (List Key × D))
  | lkK (kvs : List (Key × D)) | lkT (kvs : List (List Key × D))
  | obj (C : Addr) (fs : List (Str × D)) | tg (v : V) (d : D)

abbrev Fp := Addr → Prop
def leaf : D → Option V
  | .non => some .non
  | .bl b => some (.bl b)
  | .int i => some (.int i)
  | .str s => some (.str s)
  | .opq v => some v
  | _ => none
def kids : D → List D
  | .tup xs => xs
  | .lst xs => xs
  | .fz xs => xs
  | .dK kvs => kvs.map (·.2)
  | .dT kvs => kvs.map (·.2)
  | .lkK kvs => kvs.map (·.2)
  | .lkT kvs => kvs.map (·.2)
  | .obj _ fs => fs.map (·.2)
  | _ => []
def isMut : D → Bool
  | .lst _ => true
  | .dK _ => true
  | .dT _ => true
  | .lkK _ => true
  | .lkT _ => true
  | .obj _ _ => true
  | _ => false
def Fzl (K : PySem.W.Frag) (H : Hp) (a : Addr) (vs : List V) : Prop :=
  (∃ o, H a = some (.frz o (.lst vs))) ∨ (∃ (o : Obj) (its : Array Value) (n : Nat), K.lookup a = some o ∧ o.cls = .type "list" ∧ o.dict = none ∧ o.data = .seq its n ∧ its.size ≤ sizeLine ∧ Vals vs its.toList)
def Node (K : PySem.W.Frag) (H : Hp) : D → Addr → List V → Prop
  | .tup _, a, vs => SqT K H a vs
  | .lst _, a, vs => H a = some (.lst vs)
  | .fz _, a, vs => Fzl K H a vs
  | .dK kvs, a, vs => H a = some (.dK ((kvs.map (·.1)).zip vs))
  | .dT kvs, a, vs => H a = some (.dT ((kvs.map (·.1)).zip vs))
  | .lkK kvs, a, vs => ∃ o, H a = some (.frz o (.dK ((kvs.map (·.1)).zip vs)))
  | .lkT kvs, a, vs => ∃ o, H a = some (.frz o (.dT ((kvs.map (·.1)).zip vs)))
  | .obj C fs, a, vs => ∃ dx, H a = some (.ins C dx ((fs.map (·.1)).zip vs))
  | _, _, _ => False

/-- apart: each cell with its own footprint, all within F -/
def Sep (R : V → D → Fp → Prop) : List (V × D) → Fp → Prop
  | [], _ => True
  | (v, d) :: cs, F => ∃ F1 F2 : Fp, R v d F1 ∧ Sep R cs F2 ∧ (∀ x, F1 x → ¬ F2 x) ∧ (∀ x, F1 x → F x) ∧ ∀ x, F2 x → F x

def Own (K : PySem.W.Frag) (H : Hp) : Nat → V → D → Fp → Prop
  | 0, v, d, _ => leaf d = some v
  | n + 1, v, d, F => leaf d = some v ∨ (∃ e, d = .tg v e ∧ Own K H n v e F) ∨
      ∃ a vs, v = .ref a ∧ Node K H d a vs ∧ vs.length = (kids d).length ∧ ∃ F' : Fp, Sep (Own K H n) (vs.zip (kids d)) F' ∧ (∀ x, F' x → F x) ∧ (isMut d = true → F a ∧ ¬ F' a)
def OwnE (K : PySem.W.Frag) (H : Hp) (v : V) (d : D) (F : Fp) : Prop := ∃ n, Own K H n v d F

/-- tuples and frozen things stay -/
def Tx (H H' : Hp) : Prop := ∀ a, (∀ xs, H a = some (.tup xs) → H' a = some (.tup xs)) ∧ ∀ o u, H a = some (.frz o u) → H' a = some (.frz o u)
theorem Tx.refl (H : Hp) : Tx H H := fun _ => ⟨fun _ h => h, fun _ _ h => h⟩
theorem Tx.trans {H H1 H2 : Hp} (a : Tx H H1) (b : Tx H1 H2) : Tx H H2 := fun x => ⟨fun xs h => (b x).1 xs ((a x).1 xs h), fun o u h => (b x).2 o u ((a x).2 o u h)⟩
theorem Tx.same {H H' : Hp} (s : Same H H') : Tx H H' := fun x => ⟨fun xs h => s x _ h, fun o u h => s x _ h⟩
theorem Tx.rd {H H' : Hp} (t : Tx H H') {a : Addr} {xs : List V} (h : Rd H a (.tup xs)) : Rd H' a (.tup xs) := by
  rcases h with h | ⟨o, h⟩
  · exact .inl ((t a).1 _ h)
  · exact .inr ⟨o, (t a).2 _ _ h⟩
theorem Tx.sqt {K : PySem.W.Frag} {H H' : Hp} (t : Tx H H') {a : Addr} {xs : List V} (h : SqT K H a xs) : SqT K H' a xs := by
  rcases h with h | h
  · exact .inl (t.rd h)
  · exact .inr h
theorem Tx.fzl {K : PySem.W.Frag} {H H' : Hp} (t : Tx H H') {a : Addr} {xs : List V} (h : Fzl K H a xs) : Fzl K H' a xs := by
  rcases h with ⟨o, h⟩ | h
  · exact .inl ⟨o, (t a).2 _ _ h⟩
  · exact .inr h
theorem Tx.new {H : Hp} {p : Addr} {o : HO} (h : H p = none) : Tx H (upd H p o) := Tx.same fun b u e => by
  rw [upd_ne (ne_of_none e h)]
  exact e

section
variable {R R' : V → D → Fp → Prop} {F G : Fp} {cs L : List (V × D)} {v w : V} {d e : D} {i : Nat}
theorem Sep.monoF : ∀ {cs : List (V × D)} {F G : Fp}, Sep R cs F → (∀ x, F x → G x) → Sep R cs G
  | [], _, _, _, _ => trivial
  | (_, _) :: _, _, _, ⟨F1, F2, h1, h2, h3, h4, h5⟩, g => ⟨F1, F2, h1, h2, h3, fun x q => g x (h4 x q), fun x q => g x (h5 x q)⟩
theorem Sep.monoR : ∀ {cs : List (V × D)} {F : Fp}, Sep R cs F → (∀ v d F', (v, d) ∈ cs → (∀ x, F' x → F x) → R v d F' → R' v d F') → Sep R' cs F
  | [], _, _, _ => trivial
  | (_, _) :: _, _, ⟨F1, F2, h1, h2, h3, h4, h5⟩, g => ⟨F1, F2, g _ _ _ List.mem_cons_self h4 h1, Sep.monoR h2 fun v d F' m s r => g v d F' (List.mem_cons_of_mem _ m) (fun x q => h5 x (s x q)) r, h3, h4, h5⟩
theorem Sep.cons {F1 F2 : Fp} (h1 : R v d F1) (h2 : Sep R cs F2) (h3 : ∀ x, F1 x → ¬ F2 x) : Sep R ((v, d) :: cs) (fun x => F1 x ∨ F2 x) :=
  ⟨F1, F2, h1, h2, h3, fun _ q => .inl q, fun _ q => .inr q⟩
theorem Sep.swap {c c' : V × D} (h : Sep R (c :: c' :: cs) F) : Sep R (c' :: c :: cs) F := by
  obtain ⟨v, d⟩ := c
  obtain ⟨w, e⟩ := c'
  obtain ⟨F1, F2, h1, ⟨F3, F4, g1, g2, g3, g4, g5⟩, h3, h4, h5⟩ := h
  refine ⟨F3, fun x => F1 x ∨ F4 x, g1, ⟨F1, F4, h1, g2, fun x q z => h3 x q (g5 x z), fun _ q => .inl q, fun _ q => .inr q⟩, fun x q z => ?_, fun x q => h5 x (g4 x q), fun x q => ?_⟩
  · rcases z with z | z
    · exact h3 x z (g4 x q)
    · exact g3 x q z
  · rcases q with q | q
    · exact h4 x q
    · exact h5 x (g5 x q)
theorem Sep.tail {c : V × D} (h : Sep R (c :: cs) F) : Sep R cs F := by
  obtain ⟨v, d⟩ := c
  obtain ⟨F1, F2, _, h2, _, _, h5⟩ := h
  exact h2.monoF h5
theorem Sep.under {c : V × D} {cs' : List (V × D)} (h : Sep R (c :: cs) F) (g : ∀ G, Sep R cs G → Sep R cs' G) : Sep R (c :: cs') F := by
  obtain ⟨v, d⟩ := c
  obtain ⟨F1, F2, h1, h2, h3, h4, h5⟩ := h
  exact ⟨F1, F2, h1, g _ h2, h3, h4, h5⟩
theorem Sep.perm {cs' : List (V × D)} (p : cs.Perm cs') : ∀ {F}, Sep R cs F → Sep R cs' F := by
  induction p with
  | nil => exact fun h => h
  | cons c _ ih => exact fun h => h.under fun G => ih
  | swap a b l => exact fun h => Sep.swap h
  | trans _ _ ih1 ih2 => exact fun h => ih2 (ih1 h)
/-- the top cell takes the place of the i-th -/
theorem Sep.put {c : V × D} : ∀ {L : List (V × D)} {i : Nat} {F : Fp}, Sep R (c :: L) F → Sep R (L.set i c) F
  | [], _, _, _ => trivial
  | _ :: L, 0, _, h => (Sep.swap h).tail
  | b :: L, i + 1, _, h => by
    show Sep R (b :: L.set i c) _
    exact (Sep.swap h).under fun G => Sep.put
/-- the i-th cell is taken out -/
theorem Sep.out (h0 : ∀ v F, R v (.opq v) F) : ∀ {L : List (V × D)} {i : Nat} {F : Fp}, Sep R L F → L[i]? = some (v, d) → Sep R ((v, d) :: L.set i (v, .opq v)) F
  | [], _, _, _, e => by simp at e
  | b :: L, 0, F, h, e => by
    have e' : b = (v, d) := by simpa using e
    subst e'
    obtain ⟨F1, F2, h1, h2, h3, h4, h5⟩ := h
    exact ⟨F1, F2, h1, ⟨fun _ => False, F2, h0 _ _, h2, fun _ q => q.elim, fun _ q => q.elim, fun _ q => q⟩, h3, h4, h5⟩
  | b :: L, i + 1, F, h, e => by
    have e' : L[i]? = some (v, d) := by simpa using e
    show Sep R ((v, d) :: b :: L.set i (v, .opq v)) F
    exact Sep.swap (h.under fun G g => Sep.out h0 g e')
/-- one cell read -/
theorem Sep.get : ∀ {L : List (V × D)} {i : Nat} {F : Fp}, Sep R L F → L[i]? = some (v, d) → ∃ F1, R v d F1 ∧ ∀ x, F1 x → F x
  | [], _, _, _, e => by simp at e
  | b :: L, 0, F, h, e => by
    have e' : b = (v, d) := by simpa using e
    subst e'
    obtain ⟨F1, F2, h1, h2, h3, h4, h5⟩ := h
    exact ⟨F1, h1, h4⟩
  | b :: L, i + 1, F, h, e => by
    have e' : L[i]? = some (v, d) := by simpa using e
    obtain ⟨F1, F2, h1, h2, h3, h4, h5⟩ := h
    obtain ⟨F3, g1, g2⟩ := Sep.get h2 e'
    exact ⟨F3, g1, fun x q => h5 x (g2 x q)⟩
theorem Sep.getm (h : Sep R L F) (m : (v, d) ∈ L) : ∃ F1, R v d F1 ∧ ∀ x, F1 x → F x := by
  obtain ⟨i, e⟩ := List.mem_iff_getElem?.mp m
  exact h.get e
/-- a cell that needs nothing -/
theorem Sep.free (h : Sep R L F) (r : R v d fun _ => False) : Sep R ((v, d) :: L) F :=
  ⟨fun _ => False, F, r, h, fun _ q => q.elim, fun _ q => q.elim, fun _ q => q⟩
theorem Sep.drop {c : V × D} {cs' : List (V × D)} (h : Sep R (cs ++ c :: cs') F) : Sep R (cs ++ cs') F := by
  have p : (cs ++ c :: cs').Perm (c :: (cs ++ cs')) := List.perm_middle
  exact (h.perm p).tail
theorem Sep.append : ∀ {cs L : List (V × D)} {F G : Fp}, Sep R cs F → Sep R L G → (∀ x, F x → ¬ G x) → Sep R (cs ++ L) (fun x => F x ∨ G x)
  | [], L, F, G, _, h, _ => h.monoF fun _ q => .inr q
  | (v, d) :: cs, L, F, G, ⟨F1, F2, h1, h2, h3, h4, h5⟩, h, dj => by
    refine ⟨F1, fun x => F2 x ∨ G x, h1, Sep.append h2 h fun x q => dj x (h5 x q), fun x q z => ?_, fun x q => .inl (h4 x q), fun x q => ?_⟩
    · rcases z with z | z
      · exact h3 x q z
      · exact dj x (h4 x q) z
    · rcases q with q | q
      · exact .inl (h5 x q)
      · exact .inr q
theorem Sep.split : ∀ {cs L : List (V × D)} {F : Fp}, Sep R (cs ++ L) F → ∃ F1 F2 : Fp, Sep R cs F1 ∧ Sep R L F2 ∧ (∀ x, F1 x → ¬ F2 x) ∧ (∀ x, F1 x → F x) ∧ ∀ x, F2 x → F x
  | [], L, F, h => ⟨fun _ => False, F, trivial, h, fun _ q => q.elim, fun _ q => q.elim, fun _ q => q⟩
  | (v, d) :: cs, L, F, ⟨F1, F2, h1, h2, h3, h4, h5⟩ => by
    obtain ⟨G1, G2, g1, g2, g3, g4, g5⟩ := Sep.split h2
    refine ⟨fun x => F1 x ∨ G1 x, G2, Sep.cons h1 g1 (fun x q z => h3 x q (g4 x z)), g2, fun x q z => ?_, fun x q => ?_, fun x q => h5 x (g5 x q)⟩
    · rcases q with q | q
      · exact h3 x q (g5 x z)
      · exact g3 x q z
    · rcases q with q | q
      · exact h4 x q
      · exact h5 x (g4 x q)
theorem Sep.freeAll : ∀ {cs : List (V × D)}, (∀ c ∈ cs, R c.1 c.2 fun _ => False) → Sep R cs (fun _ => False)
  | [], _ => trivial
  | (v, d) :: cs, h => ⟨fun _ => False, fun _ => False, h _ List.mem_cons_self, Sep.freeAll fun c m => h c (List.mem_cons_of_mem _ m), fun _ q => q.elim, fun _ q => q.elim, fun _ q => q⟩
end

section
variable {K : PySem.W.Frag} {H H' : Hp} {n m : Nat} {v : V} {d : D} {F G : Fp} {a : Addr} {vs : List V} {cs : List (V × D)}
theorem Own.monoF : ∀ {n : Nat} {v : V} {d : D} {F G : Fp}, Own K H n v d F → (∀ x, F x → G x) → Own K H n v d G
  | 0, _, _, _, _, h, _ => h
  | n + 1, v, d, F, G, h, g => by
    rcases h with h | ⟨e, h1, h2⟩ | ⟨a, vs, h1, h2, h3, F', h4, h5, h6⟩
    · exact .inl h
    · exact .inr (.inl ⟨e, h1, Own.monoF h2 g⟩)
    · exact .inr (.inr ⟨a, vs, h1, h2, h3, F', h4, fun x q => g x (h5 x q), fun q => ⟨g a (h6 q).1, (h6 q).2⟩⟩)
theorem Own.succ : ∀ {n : Nat} {v : V} {d : D} {F : Fp}, Own K H n v d F → Own K H (n + 1) v d F
  | 0, _, _, _, h => .inl h
  | n + 1, v, d, F, h => by
    rcases h with h | ⟨e, h1, h2⟩ | ⟨a, vs, h1, h2, h3, F', h4, h5, h6⟩
    · exact .inl h
    · exact .inr (.inl ⟨e, h1, Own.succ h2⟩)
    · exact .inr (.inr ⟨a, vs, h1, h2, h3, F', h4.monoR fun _ _ _ _ _ r => Own.succ r, h5, h6⟩)
theorem Own.le (h : Own K H n v d F) (l : n ≤ m) : Own K H m v d F := by
  induction l with
  | refl => exact h
  | step _ ih => exact ih.succ
theorem Sep.bound : ∀ {cs : List (V × D)} {F : Fp}, Sep (OwnE K H) cs F → ∃ n, Sep (Own K H n) cs F
  | [], _, _ => ⟨0, trivial⟩
  | (v, d) :: cs, F, ⟨F1, F2, ⟨n, h1⟩, h2, h3, h4, h5⟩ => by
    obtain ⟨m, g⟩ := Sep.bound h2
    exact ⟨max n m, F1, F2, h1.le (Nat.le_max_left _ _), g.monoR fun _ _ _ _ _ r => r.le (Nat.le_max_right _ _), h3, h4, h5⟩
theorem Node.frame (h : Node K H d a vs) (t : Tx H H') (e : isMut d = true → H' a = H a) : Node K H' d a vs := by
  cases d with
  | tup _ => exact t.sqt h
  | fz _ => exact t.fzl h
  | lst _ => exact (e rfl).trans h
  | dK _ => exact (e rfl).trans h
  | dT _ => exact (e rfl).trans h
  | lkK _ =>
    obtain ⟨o, h⟩ := h
    exact ⟨o, (e rfl).trans h⟩
  | lkT _ =>
    obtain ⟨o, h⟩ := h
    exact ⟨o, (e rfl).trans h⟩
  | obj _ _ =>
    obtain ⟨o, h⟩ := h
    exact ⟨o, (e rfl).trans h⟩
  | _ => exact h.elim
theorem Own.frame (t : Tx H H') : ∀ {n : Nat} {v : V} {d : D} {F : Fp}, Own K H n v d F → (∀ x, F x → H' x = H x) → Own K H' n v d F
  | 0, _, _, _, h, _ => h
  | n + 1, v, d, F, h, g => by
    rcases h with h | ⟨e, h1, h2⟩ | ⟨a, vs, h1, h2, h3, F', h4, h5, h6⟩
    · exact .inl h
    · exact .inr (.inl ⟨e, h1, Own.frame t h2 g⟩)
    · exact .inr (.inr ⟨a, vs, h1, h2.frame t fun q => g a (h6 q).1, h3, F', h4.monoR fun _ _ _ _ s r => Own.frame t r fun x q => g x (h5 x (s x q)), h5, h6⟩)
theorem OwnE.monoF (h : OwnE K H v d F) (g : ∀ x, F x → G x) : OwnE K H v d G := h.elim fun n h => ⟨n, h.monoF g⟩
theorem OwnE.frame (h : OwnE K H v d F) (t : Tx H H') (g : ∀ x, F x → H' x = H x) : OwnE K H' v d F := h.elim fun n h => ⟨n, h.frame t g⟩
theorem OwnE.opq (v : V) (F : Fp) : OwnE K H v (.opq v) F := ⟨0, rfl⟩
theorem OwnE.leaf (h : leaf d = some v) : OwnE K H v d F := ⟨0, h⟩
theorem OwnE.non : OwnE K H .non .non F := ⟨0, rfl⟩
theorem OwnE.int {i : Int} : OwnE K H (.int i) (.int i) F := ⟨0, rfl⟩
theorem OwnE.bl {i : Bool} : OwnE K H (.bl i) (.bl i) F := ⟨0, rfl⟩
theorem OwnE.str {i : Str} : OwnE K H (.str i) (.str i) F := ⟨0, rfl⟩
theorem OwnE.node {F' : Fp} (h2 : Node K H d a vs) (h3 : vs.length = (kids d).length) (h4 : Sep (OwnE K H) (vs.zip (kids d)) F') (h5 : ∀ x, F' x → F x) (h6 : isMut d = true → F a ∧ ¬ F' a) : OwnE K H (.ref a) d F := by
  obtain ⟨n, h⟩ := h4.bound
  exact ⟨n + 1, .inr (.inr ⟨a, vs, rfl, h2, h3, F', h, h5, h6⟩)⟩
theorem OwnE.tg (h : OwnE K H v d F) : OwnE K H v (.tg v d) F := h.elim fun n h => ⟨n + 1, .inr (.inl ⟨d, rfl, h⟩)⟩
theorem OwnE.inv (h : OwnE K H v d F) : Dl.leaf d = some v ∨ (∃ e, d = .tg v e ∧ OwnE K H v e F) ∨
    ∃ a vs, v = .ref a ∧ Node K H d a vs ∧ vs.length = (kids d).length ∧ ∃ F' : Fp, Sep (OwnE K H) (vs.zip (kids d)) F' ∧ (∀ x, F' x → F x) ∧ (isMut d = true → F a ∧ ¬ F' a) := by
  obtain ⟨n, h⟩ := h
  cases n with
  | zero => exact .inl h
  | succ n =>
    rcases h with h | ⟨e, h1, h2⟩ | ⟨a, vs, h1, h2, h3, F', h4, h5, h6⟩
    · exact .inl h
    · exact .inr (.inl ⟨e, h1, n, h2⟩)
    · exact .inr (.inr ⟨a, vs, h1, h2, h3, F', h4.monoR fun _ _ _ _ _ r => ⟨n, r⟩, h5, h6⟩)
theorem OwnE.of_int {i : Int} (h : OwnE K H v (.int i) F) : v = .int i := by
  rcases h.inv with h | ⟨e, h1, h2⟩ | ⟨a, vs, h1, h2, _⟩
  · exact (Option.some.inj h).symm
  · cases h1
  · exact h2.elim
theorem OwnE.of_bl {i : Bool} (h : OwnE K H v (.bl i) F) : v = .bl i := by
  rcases h.inv with h | ⟨e, h1, h2⟩ | ⟨a, vs, h1, h2, _⟩
  · exact (Option.some.inj h).symm
  · cases h1
  · exact h2.elim
theorem OwnE.of_str {i : Str} (h : OwnE K H v (.str i) F) : v = .str i := by
  rcases h.inv with h | ⟨e, h1, h2⟩ | ⟨a, vs, h1, h2, _⟩
  · exact (Option.some.inj h).symm
  · cases h1
  · exact h2.elim
theorem OwnE.of_non (h : OwnE K H v .non F) : v = .non := by
  rcases h.inv with h | ⟨e, h1, h2⟩ | ⟨a, vs, h1, h2, _⟩
  · exact (Option.some.inj h).symm
  · cases h1
  · exact h2.elim
theorem OwnE.of_opq {w : V} (h : OwnE K H v (.opq w) F) : v = w := by
  rcases h.inv with h | ⟨e, h1, h2⟩ | ⟨a, vs, h1, h2, _⟩
  · exact (Option.some.inj h).symm
  · cases h1
  · exact h2.elim
theorem OwnE.of_leaf {w : V} (hl : Dl.leaf d = some w) (h : OwnE K H v d F) : v = w := by
  cases d with
  | non => rw [h.of_non]; exact Option.some.inj hl
  | bl b => rw [h.of_bl]; exact Option.some.inj hl
  | int b => rw [h.of_int]; exact Option.some.inj hl
  | str b => rw [h.of_str]; exact Option.some.inj hl
  | opq b => rw [h.of_opq]; exact Option.some.inj hl
  | _ => cases hl
/-- what is neither a leaf nor tagged -/
theorem OwnE.of_node (h : OwnE K H v d F) (hl : Dl.leaf d = none) (ht : ∀ w e, d ≠ .tg w e) :
    ∃ a vs, v = .ref a ∧ Node K H d a vs ∧ vs.length = (kids d).length ∧ ∃ F' : Fp, Sep (OwnE K H) (vs.zip (kids d)) F' ∧ (∀ x, F' x → F x) ∧ (isMut d = true → F a ∧ ¬ F' a) := by
  rcases h.inv with h | ⟨e, h1, h2⟩ | h
  · rw [hl] at h; cases h
  · exact (ht _ _ h1).elim
  · exact h
theorem OwnE.of_tg {w : V} (h : OwnE K H v (.tg w d) F) : v = w ∧ OwnE K H v d F := by
  rcases h.inv with h | ⟨e, h1, h2⟩ | ⟨a, vs, h1, h2, _⟩
  · cases h
  · cases h1; exact ⟨rfl, h2⟩
  · exact h2.elim
end

/-- data that no change of what is owned touches -/
def Imm (d : D) : Prop := ∀ (K : PySem.W.Frag) (H : Hp) (v : V) (F : Fp), OwnE K H v d F → OwnE K H v d fun _ => False
theorem imm_leaf {d : D} {v : V} (h : leaf d = some v) : Imm d := fun K H w F o => by
  rw [o.of_leaf h]
  exact .leaf h
theorem imm_int {i : Int} : Imm (.int i) := imm_leaf rfl
theorem imm_bl {i : Bool} : Imm (.bl i) := imm_leaf rfl
theorem imm_str {i : Str} : Imm (.str i) := imm_leaf rfl
theorem imm_non : Imm .non := imm_leaf rfl
theorem imm_opq {v : V} : Imm (.opq v) := imm_leaf rfl
theorem Sep.imm {K : PySem.W.Frag} {H : Hp} {F : Fp} : ∀ {cs : List (V × D)}, Sep (OwnE K H) cs F → (∀ c ∈ cs, Imm c.2) → Sep (OwnE K H) cs fun _ => False := fun h i =>
  Sep.freeAll fun c m => by
    obtain ⟨F1, r, _⟩ := h.getm (v := c.1) (d := c.2) m
    exact i c m K H _ _ r
theorem zip_snd {vs : List V} {ds : List D} {c : V × D} (h : c ∈ vs.zip ds) : c.2 ∈ ds := (List.of_mem_zip h).2
theorem imm_tup {xs : List D} (h : ∀ x ∈ xs, Imm x) : Imm (.tup xs) := fun K H v F o => by
  obtain ⟨a, vs, rfl, h2, h3, F', h4, h5, h6⟩ := o.of_node rfl (fun _ _ q => nomatch q)
  exact OwnE.node h2 h3 (h4.imm fun c m => h _ (zip_snd m)) (fun _ q => q) (fun q => nomatch q)
theorem imm_fz {xs : List D} (h : ∀ x ∈ xs, Imm x) : Imm (.fz xs) := fun K H v F o => by
  obtain ⟨a, vs, rfl, h2, h3, F', h4, h5, h6⟩ := o.of_node rfl (fun _ _ q => nomatch q)
  exact OwnE.node h2 h3 (h4.imm fun c m => h _ (zip_snd m)) (fun _ q => q) (fun q => nomatch q)
end Dl

namespace Dl
open PySem L2

/-! ### the state -/
abbrev Env := List (Option D)
/-- a result: data of its own, or what stands in a slot -/
inductive Rs where
  | v (d : D) | s (i : Nat)
structure Fm where
  H0 : Hp
  F0 : Fp
  pn : List Nat
  pv : Nat → V
def cl : Option V → Option D → V × D
  | some v, some d => (v, d)
  | _, _ => (.non, .non)
def cells (σ : St) (δ : Env) : List (V × D) := List.zipWith cl σ δ
def tc : V × Rs → V × D
  | (v, .v d) => (v, d)
  | (v, .s _) => (v, .opq v)
structure Rp (K : PySem.W.Frag) (f : Fm) (H : Hp) (σ : St) (δ : Env) (T : List (V × Rs)) : Prop where
  len : σ.length = δ.length
  has : ∀ (i : Nat) (d : D), δ[i]? = some (some d) → ∃ v : V, σ[i]? = some (some v)
  own : ∃ F, Sep (OwnE K H) (T.map tc ++ cells σ δ) F ∧ ∀ x, F x → f.F0 x ∨ f.H0 x = none
  tmp : ∀ c ∈ T, ∀ j, c.2 = .s j → σ[j]? = some (some c.1)
  fr : ∀ a u, f.H0 a = some u → ¬ f.F0 a → H a = some u
  tx : Tx f.H0 H
  pin : ∀ i ∈ f.pn, σ[i]? = some (some (f.pv i))
def rsv (δ : Env) : Rs → Option D
  | .v d => some d
  | .s i => δ[i]?.join

section
variable {K : PySem.W.Frag} {f : Fm} {H H' : Hp} {σ : St} {δ : Env} {T T' : List (V × Rs)} {v w : V} {d e : D} {i j : Nat} {r : Rs} {p a : Addr} {o : HO} {F : Fp}
theorem cells_get (l : σ.length = δ.length) (h1 : σ[i]? = some (some v)) (h2 : δ[i]? = some (some d)) : (cells σ δ)[i]? = some (v, d) := by
  unfold cells
  rw [List.getElem?_zipWith, h1, h2]
  rfl
theorem cells_set {x : Option V} {y : Option D} : cells (σ.set i x) (δ.set i y) = (cells σ δ).set i (cl x y) := by
  unfold cells
  induction σ generalizing δ i with
  | nil => simp
  | cons s σ ih =>
    cases δ with
    | nil => simp
    | cons t δ =>
      cases i with
      | zero => rfl
      | succ i =>
        simp only [List.set_cons_succ, List.zipWith_cons_cons]
        rw [ih]
theorem set_same {α : Type} {l : List α} {x : α} (h : l[i]? = some x) : l.set i x = l := by
  obtain ⟨h1, rfl⟩ := List.getElem?_eq_some_iff.mp h
  exact List.set_getElem_self h1
theorem cells_setd (h1 : σ[i]? = some (some v)) : cells σ (δ.set i (some d)) = (cells σ δ).set i (v, d) := by
  have e := cells_set (σ := σ) (δ := δ) (i := i) (x := some v) (y := some d)
  rw [set_same h1] at e
  exact e
theorem get_join {i : Nat} {d : D} (h : δ[i]?.join = some d) : δ[i]? = some (some d) := by
  cases q : δ[i]? with
  | none => rw [q] at h; cases h
  | some x =>
    rw [q] at h
    cases x with
    | none => cases h
    | some y => cases h; rfl
/-- what a slot's data says -/
theorem Rp.slot (R : Rp K f H σ δ T) (h : δ[i]? = some (some d)) : ∃ v, σ[i]? = some (some v) ∧ ∃ F, OwnE K H v d F := by
  obtain ⟨v, e⟩ := R.has i d h
  obtain ⟨F, s, _⟩ := R.own
  obtain ⟨F1, F2, s1, s2, _⟩ := s.split
  obtain ⟨F3, q, _⟩ := s2.get (cells_get R.len e h)
  exact ⟨v, e, F3, q⟩
theorem Rp.slotv (R : Rp K f H σ δ T) (h : δ[i]? = some (some d)) (e : σ[i]? = some (some v)) : ∃ F, OwnE K H v d F := by
  obtain ⟨w, e2, q⟩ := R.slot h
  rw [e] at e2
  cases e2
  exact q
/-- what a result's data says -/
theorem Rp.res (R : Rp K f H σ δ T) (m : (v, r) ∈ T) (h : rsv δ r = some d) : ∃ F, OwnE K H v d F := by
  cases r with
  | v e =>
    cases h
    obtain ⟨F, s, _⟩ := R.own
    obtain ⟨F1, F2, s1, s2, _⟩ := s.split
    obtain ⟨F3, q, _⟩ := s1.getm (v := v) (d := _) (List.mem_map.mpr ⟨_, m, rfl⟩)
    exact ⟨F3, q⟩
  | s j => exact R.slotv (get_join h) (R.tmp _ m j rfl)
theorem Rp.tail {c : V × Rs} (R : Rp K f H σ δ (c :: T)) : Rp K f H σ δ T := by
  obtain ⟨F, s, k⟩ := R.own
  exact ⟨R.len, R.has, ⟨F, s.tail, k⟩, fun c m => R.tmp c (List.mem_cons_of_mem _ m), R.fr, R.tx, R.pin⟩
theorem Rp.tail2 {c c' : V × Rs} (R : Rp K f H σ δ (c :: c' :: T)) : Rp K f H σ δ T := R.tail.tail
/-- some heap that keeps all -/
theorem Rp.same (R : Rp K f H σ δ T) (s : Same H H') : Rp K f H' σ δ T := by
  obtain ⟨F, h, k⟩ := R.own
  refine ⟨R.len, R.has, ?_, R.tmp, fun a u h1 h2 => s _ _ (R.fr a u h1 h2), R.tx.trans (.same s), R.pin⟩
  -- footprints hold what is tracked: what is not tracked is nobody's
  refine ⟨F, h.monoR fun v d F' m1 m2 r => ?_, k⟩
  obtain ⟨n, r⟩ := r
  refine ⟨n, ?_⟩
  clear h k m1 m2
  induction n generalizing v d F' with
  | zero => exact r
  | succ n ih =>
    rcases r with r | ⟨e, h1, h2⟩ | ⟨a, vs, h1, h2, h3, F2, h4, h5, h6⟩
    · exact .inl r
    · exact .inr (.inl ⟨e, h1, ih _ _ _ h2⟩)
    · refine .inr (.inr ⟨a, vs, h1, ?_, h3, F2, h4.monoR fun v d F' _ _ r => ih _ _ _ r, h5, h6⟩)
      cases d with
      | tup _ => exact (Tx.same s).sqt h2
      | fz _ => exact (Tx.same s).fzl h2
      | lst _ => exact s _ _ h2
      | dK _ => exact s _ _ h2
      | dT _ => exact s _ _ h2
      | lkK _ => exact h2.elim fun o h => ⟨o, s _ _ h⟩
      | lkT _ => exact h2.elim fun o h => ⟨o, s _ _ h⟩
      | obj _ _ => exact h2.elim fun o h => ⟨o, s _ _ h⟩
      | _ => exact h2.elim
theorem same_new (h : H p = none) : Same H (upd H p o) := fun b u e => by
  rw [upd_ne (ne_of_none e h)]
  exact e
theorem Rp.new (R : Rp K f H σ δ T) (h : H p = none) : Rp K f (upd H p o) σ δ T := R.same (same_new h)
theorem Rp.pushI (R : Rp K f H σ δ T) (h : OwnE K H v d F) (i : Imm d) : Rp K f H σ δ ((v, .v d) :: T) := by
  obtain ⟨F, s, k⟩ := R.own
  refine ⟨R.len, R.has, ⟨F, s.free (i _ _ _ _ h), k⟩, fun c m j e => ?_, R.fr, R.tx, R.pin⟩
  rcases List.mem_cons.mp m with m | m
  · rw [m] at e; cases e
  · exact R.tmp c m j e
theorem Rp.pushL (R : Rp K f H σ δ T) (h : leaf d = some v) : Rp K f H σ δ ((v, .v d) :: T) := R.pushI (F := fun _ => False) (.leaf h) (imm_leaf h)
theorem Rp.pushS (R : Rp K f H σ δ T) (h : σ[j]? = some (some v)) : Rp K f H σ δ ((v, .s j) :: T) := by
  obtain ⟨F, s, k⟩ := R.own
  refine ⟨R.len, R.has, ⟨F, s.free (.opq _ _), k⟩, fun c m i e => ?_, R.fr, R.tx, R.pin⟩
  rcases List.mem_cons.mp m with m | m
  · rw [m] at e ⊢; cases e; exact h
  · exact R.tmp c m i e
/-- new cells by owning: what stands for what -/
theorem Rp.cellsTo (R : Rp K f H σ δ T) (hc : ∀ F, Sep (OwnE K H) (T.map tc) F → Sep (OwnE K H) (T'.map tc) F) (ht : ∀ c ∈ T', ∀ j, c.2 = .s j → c ∈ T) : Rp K f H σ δ T' := by
  obtain ⟨F, s, k⟩ := R.own
  obtain ⟨F1, F2, s1, s2, dj, k1, k2⟩ := s.split
  refine ⟨R.len, R.has, ⟨_, Sep.append (hc _ s1) s2 dj, fun x q => ?_⟩, fun c m j e => R.tmp c (ht c m j e) j e, R.fr, R.tx, R.pin⟩
  rcases q with q | q
  · exact k x (k1 x q)
  · exact k x (k2 x q)
/-- a new object of the topmost cells -/
theorem Rp.node {cs : List (V × Rs)} {vs : List V} (R : Rp K f H σ δ (cs ++ T)) (hp : H p = none) (hn : Node K (upd H p o) d p vs) (hl : vs.length = (kids d).length)
    (hk : ∀ F, Sep (OwnE K H) (cs.map tc) F → Sep (OwnE K H) (vs.zip (kids d)) F) : Rp K f (upd H p o) σ δ ((.ref p, .v d) :: T) := by
  obtain ⟨F, s, k⟩ := R.own
  rw [List.map_append, List.append_assoc] at s
  obtain ⟨F1, F2, s1, s2, dj, k1, k2⟩ := s.split
  have tn : Tx H (upd H p o) := Tx.new hp
  -- footprints without p
  have fp0 : f.F0 p ∨ f.H0 p = none := by
    by_cases h : f.F0 p
    · exact .inl h
    · refine .inr ?_
      cases q : f.H0 p with
      | none => rfl
      | some u =>
        have := R.fr p u q h
        rw [hp] at this
        cases this
  have cut : ∀ {cs : List (V × D)} {F : Fp}, Sep (OwnE K H) cs F → Sep (OwnE K (upd H p o)) cs (fun x => F x ∧ x ≠ p) := by
    intro cs F s
    have main : ∀ (n : Nat) (v : V) (d : D) (F : Fp), Own K H n v d F → Own K (upd H p o) n v d (fun x => F x ∧ x ≠ p) := by
      intro n
      induction n with
      | zero => exact fun v d F r => r
      | succ n ih =>
        intro v d F r
        rcases r with r | ⟨e, h1, h2⟩ | ⟨a, vs, h1, h2, h3, F2, h4, h5, h6⟩
        · exact .inl r
        · exact .inr (.inl ⟨e, h1, ih _ _ _ h2⟩)
        · have nap : isMut d = true → a ≠ p := by
            intro hm e
            subst e
            cases d with
            | lst _ => exact nomatch (show H a = some _ from h2).symm.trans hp
            | dK _ => exact nomatch (show H a = some _ from h2).symm.trans hp
            | dT _ => exact nomatch (show H a = some _ from h2).symm.trans hp
            | lkK _ => exact h2.elim fun o h => nomatch h.symm.trans hp
            | lkT _ => exact h2.elim fun o h => nomatch h.symm.trans hp
            | obj _ _ => exact h2.elim fun o h => nomatch h.symm.trans hp
            | _ => cases hm
          refine .inr (.inr ⟨a, vs, h1, h2.frame tn fun hm => upd_ne (nap hm), h3, fun x => F2 x ∧ x ≠ p, ?_, fun x q => ⟨h5 x q.1, q.2⟩, fun hm => ⟨⟨(h6 hm).1, nap hm⟩, fun q => (h6 hm).2 q.1⟩⟩)
          have sm : ∀ {cs : List (V × D)} {F : Fp}, Sep (Own K H n) cs F → Sep (Own K (upd H p o) n) cs (fun x => F x ∧ x ≠ p) := by
            intro cs
            induction cs with
            | nil => exact fun _ => trivial
            | cons c cs ihc =>
              intro F ⟨G1, G2, g1, g2, g3, g4, g5⟩
              exact ⟨_, _, ih _ _ _ g1, ihc g2, fun x q z => g3 x q.1 z.1, fun x q => ⟨g4 x q.1, q.2⟩, fun x q => ⟨g5 x q.1, q.2⟩⟩
          exact sm h4
    induction cs generalizing F with
    | nil => trivial
    | cons c cs ih =>
      obtain ⟨G1, G2, ⟨n, g1⟩, g2, g3, g4, g5⟩ := s
      exact ⟨_, _, ⟨n, main _ _ _ _ g1⟩, ih g2, fun x q z => g3 x q.1 z.1, fun x q => ⟨g4 x q.1, q.2⟩, fun x q => ⟨g5 x q.1, q.2⟩⟩
  refine ⟨R.len, R.has, ⟨fun x => (F1 x ∨ x = p) ∨ F2 x, ⟨fun x => (F1 x ∧ x ≠ p) ∨ x = p, fun x => F2 x ∧ x ≠ p, ?_, cut s2, fun x q z => ?_, fun x q => ?_, fun x q => .inr q.1⟩, fun x q => ?_⟩, fun c m j e => ?_, fun a u h1 h2 => ?_, R.tx.trans tn, R.pin⟩
  · refine OwnE.node (F' := fun x => F1 x ∧ x ≠ p) hn hl (cut (hk _ s1)) (fun x q => .inl q) (fun _ => ⟨.inr rfl, fun q => q.2 rfl⟩)
  · rcases q with q | q
    · exact dj x q.1 z.1
    · exact z.2 q
  · rcases q with q | q
    · exact .inl (.inl q.1)
    · exact .inl (.inr q)
  · rcases q with (q | q) | q
    · exact k x (k1 x q)
    · rw [q]; exact fp0
    · exact k x (k2 x q)
  · rcases List.mem_cons.mp m with m | m
    · rw [m] at e; cases e
    · exact R.tmp c (List.mem_append_right _ m) j e
  · exact same_new hp _ _ (R.fr a u h1 h2)
/-- the topmost value is stored -/
theorem Rp.store (R : Rp K f H σ δ ((v, .v d) :: T)) (hp : ∀ p ∈ f.pn, p ≠ i) (ht : ∀ c ∈ T, ∀ j, c.2 ≠ .s j) : Rp K f H (σ.set i (some v)) (δ.set i (some d)) T := by
  obtain ⟨F, s, k⟩ := R.own
  refine ⟨by simp [R.len], fun j e h => ?_, ⟨F, ?_, k⟩, fun c m j e => absurd e (ht c m j), R.fr, R.tx, fun p m => ?_⟩
  · by_cases q : j = i
    · subst q
      have hj := (List.getElem?_eq_some_iff.mp h).1
      rw [List.length_set] at hj
      exact ⟨v, List.getElem?_set_self (by rw [R.len]; exact hj)⟩
    · rw [List.getElem?_set_ne (Ne.symm q)] at h ⊢
      exact R.has j e h
  · have s' : Sep (OwnE K H) ((v, d) :: (T.map tc ++ cells σ δ)) F := s
    have g := s'.put (i := (T.map tc).length + i)
    rw [List.set_append_right _ _ (Nat.le_add_right _ _), Nat.add_sub_cancel_left] at g
    rw [cells_set]
    exact g
  · rw [List.getElem?_set_ne (Ne.symm (hp p m))]
    exact R.pin p m
/-- a slot's data taken out -/
theorem Rp.out (R : Rp K f H σ δ T) (h : δ[i]? = some (some d)) : ∃ v, σ[i]? = some (some v) ∧ Rp K f H σ (δ.set i (some (.opq v))) ((v, .v d) :: T) := by
  obtain ⟨v, e⟩ := R.has i d h
  obtain ⟨F, s, k⟩ := R.own
  have hi := (List.getElem?_eq_some_iff.mp h).1
  refine ⟨v, e, by simp [R.len], fun j x g => ?_, ⟨F, ?_, k⟩, fun c m j q => ?_, R.fr, R.tx, R.pin⟩
  · by_cases q : j = i
    · exact ⟨v, q ▸ e⟩
    · rw [List.getElem?_set_ne (Ne.symm q)] at g
      exact R.has j x g
  · have g := s.out (fun v F => OwnE.opq v F) (i := (T.map tc).length + i) (v := v) (d := d) (by
      rw [List.getElem?_append_right (Nat.le_add_right _ _), Nat.add_sub_cancel_left]
      exact cells_get R.len e h)
    rw [List.set_append_right _ _ (Nat.le_add_right _ _), Nat.add_sub_cancel_left] at g
    rw [cells_setd e]
    exact g
  · rcases List.mem_cons.mp m with m | m
    · rw [m] at q; cases q
    · exact R.tmp c m j q
/-- .. and put back -/
theorem Rp.back (R : Rp K f H σ δ ((v, .v d) :: T)) (e : σ[i]? = some (some v)) : Rp K f H σ (δ.set i (some d)) T := by
  obtain ⟨F, s, k⟩ := R.own
  refine ⟨by simp [R.len], fun j x g => ?_, ⟨F, ?_, k⟩, fun c m j q => R.tmp c (List.mem_cons_of_mem _ m) j q, R.fr, R.tx, R.pin⟩
  · by_cases q : j = i
    · exact ⟨v, q ▸ e⟩
    · rw [List.getElem?_set_ne (Ne.symm q)] at g
      exact R.has j x g
  · have s' : Sep (OwnE K H) ((v, d) :: (T.map tc ++ cells σ δ)) F := s
    have g := s'.put (i := (T.map tc).length + i)
    rw [List.set_append_right _ _ (Nat.le_add_right _ _), Nat.add_sub_cancel_left] at g
    rw [cells_setd e]
    exact g
/-- an owned object is changed -/
theorem Rp.change {cs : List (V × Rs)} (R : Rp K f H σ δ ((.ref a, .v d) :: (cs ++ T))) (hm : isMut d = true) :
    ∃ vs, Node K H d a vs ∧ vs.length = (kids d).length ∧ ∀ (o : HO) (d' : D) (vs' : List V), Node K (upd H a o) d' a vs' → isMut d' = true → vs'.length = (kids d').length →
      (∀ F, Sep (OwnE K (upd H a o)) (vs.zip (kids d) ++ cs.map tc) F → Sep (OwnE K (upd H a o)) (vs'.zip (kids d')) F) → (∀ o' u, H a ≠ some (.frz o' u)) → Rp K f (upd H a o) σ δ ((.ref a, .v d') :: T) := by
  obtain ⟨F, s, k⟩ := R.own
  obtain ⟨F1, F2, h1, h2, h3, h4, h5⟩ := s
  have hl : leaf d = none := by cases d <;> first | rfl | cases hm
  have ht : ∀ w e, d ≠ .tg w e := by intro w e q; subst q; cases hm
  obtain ⟨a', vs, ea, hn, hlen, F3, k1, k2, k3⟩ := OwnE.of_node h1 hl ht
  cases ea
  refine ⟨vs, hn, hlen, fun o d' vs' hn' hm' hl' hk hfz => ?_⟩
  obtain ⟨ha, ha3⟩ := k3 hm
  have ntup : ∀ xs, H a ≠ some (.tup xs) := by
    intro xs q
    cases d with
    | lst _ => exact nomatch (show H a = some _ from hn).symm.trans q
    | dK _ => exact nomatch (show H a = some _ from hn).symm.trans q
    | dT _ => exact nomatch (show H a = some _ from hn).symm.trans q
    | lkK _ => exact hn.elim fun o h => nomatch h.symm.trans q
    | lkT _ => exact hn.elim fun o h => nomatch h.symm.trans q
    | obj _ _ => exact hn.elim fun o h => nomatch h.symm.trans q
    | _ => cases hm
  have tn : Tx H (upd H a o) := fun b => ⟨fun xs q => by
    rw [upd_ne (fun z : b = a => ntup xs (z ▸ q))]
    exact q, fun o' u q => by
    rw [upd_ne (fun z : b = a => hfz o' u (z ▸ q))]
    exact q⟩
  have s2 : Sep (OwnE K H) (cs.map tc ++ (T.map tc ++ cells σ δ)) F2 := by
    have q : Sep (OwnE K H) ((cs ++ T).map tc ++ cells σ δ) F2 := h2
    rw [List.map_append, List.append_assoc] at q
    exact q
  obtain ⟨G1, G2, g1, g2, g3, g4, g5⟩ := s2.split
  have ne2 : ∀ x, F2 x → x ≠ a := fun x q z => h3 a ha (z ▸ q)
  have c1 : Sep (OwnE K (upd H a o)) (vs.zip (kids d)) F3 := k1.monoR fun v d F' _ q r => r.frame tn fun x z => upd_ne fun y => ha3 (q a (y ▸ z))
  have c2 : Sep (OwnE K (upd H a o)) (cs.map tc) G1 := g1.monoR fun v d F' _ q r => r.frame tn fun x z => upd_ne (ne2 x (g4 x (q x z)))
  have c3 : Sep (OwnE K (upd H a o)) (T.map tc ++ cells σ δ) G2 := g2.monoR fun v d F' _ q r => r.frame tn fun x z => upd_ne (ne2 x (g5 x (q x z)))
  have c4 := hk _ (Sep.append c1 c2 fun x q z => h3 x (k2 x q) (g4 x z))
  refine ⟨R.len, R.has, ⟨F, ⟨fun x => F1 x ∨ G1 x, G2, ?_, c3, fun x q z => ?_, fun x q => ?_, fun x q => h5 x (g5 x q)⟩, k⟩, fun c m j e => ?_, fun b u q1 q2 => ?_, R.tx.trans tn, R.pin⟩
  · refine OwnE.node hn' hl' c4 (fun x q => ?_) (fun _ => ⟨.inl ha, fun q => ?_⟩)
    · rcases q with q | q
      · exact .inl (k2 x q)
      · exact .inr q
    · rcases q with q | q
      · exact ha3 q
      · exact ne2 a (g4 a q) rfl
  · rcases q with q | q
    · exact h3 x q (g5 x z)
    · exact g3 x q z
  · rcases q with q | q
    · exact h4 x q
    · exact h5 x (g4 x q)
  · rcases List.mem_cons.mp m with m | m
    · rw [m] at e; cases e
    · exact R.tmp c (List.mem_cons_of_mem _ (List.mem_append_right _ m)) j e
  · have n : b ≠ a := fun z => by
      subst z
      rcases k b (h4 b ha) with z | z
      · exact q2 z
      · rw [q1] at z; cases z
    rw [upd_ne n]
    exact R.fr b u q1 q2
end
end Dl

namespace Dl
open PySem L2

/-! ### judgements -/
def tE (K : PySem.W.Frag) (f : Fm) (δ : Env) (Ψ : Rs → Env → Prop) : TE := fun σ H Q => ∃ T, Rp K f H σ δ T ∧ ∀ r δ' v H', Ψ r δ' → Rp K f H' σ δ' ((v, r) :: T) → Q v H'
def tT (K : PySem.W.Frag) (f : Fm) (δ : Env) (Ψ : Bool → Env → Prop) : TT := fun σ H Q => ∃ T, Rp K f H σ δ T ∧ ∀ b δ' H', Ψ b δ' → Rp K f H' σ δ' T → Q b H'
def tA (K : PySem.W.Frag) (f : Fm) (δ : Env) (Ψ : List Rs → Env → Prop) : TA := fun σ H Q => ∃ T, Rp K f H σ δ T ∧ ∀ rs δ' vs H', Ψ rs δ' → vs.length = rs.length → Rp K f H' σ δ' (vs.zip rs ++ T) → Q vs H'
structure Ph where
  nx : Env → Prop
  rt : D → Env → Prop
  bk : Env → Prop := fun _ => False
  ct : Env → Prop := fun _ => False
def tv (T : List (V × D)) : List (V × Rs) := T.map fun c => (c.1, .v c.2)
def tS (K : PySem.W.Frag) (f : Fm) (δ : Env) (Φ : Ph) : TS := fun E σ H => ∃ T, Rp K f H σ δ (tv T) ∧ (∀ δ' σ' H', Φ.nx δ' → Rp K f H' σ' δ' (tv T) → E.nx σ' H') ∧
  (∀ d δ' v σ' H', Φ.rt d δ' → Rp K f H' σ' δ' ((v, .v d) :: tv T) → E.rt v H') ∧ (∀ δ' σ' H', Φ.bk δ' → Rp K f H' σ' δ' (tv T) → E.bk σ' H') ∧ (∀ δ' σ' H', Φ.ct δ' → Rp K f H' σ' δ' (tv T) → E.ct σ' H')
structure DE (X : Cx) (f : Fm) (δ : Env) (e : Expr) (Ψ : Rs → Env → Prop) : Prop where
  h : PE X e (tE X.K f δ Ψ)
structure DT (X : Cx) (f : Fm) (δ : Env) (e : Expr) (Ψ : Bool → Env → Prop) : Prop where
  h : PT X e (tT X.K f δ Ψ)
structure DW (X : Cx) (f : Fm) (δ : Env) (e : Expr) (Ψ : Bool → Env → Prop) : Prop where
  h : PW X e (tT X.K f δ Ψ)
structure DA (X : Cx) (f : Fm) (δ : Env) (es : List Expr) (Ψ : List Rs → Env → Prop) : Prop where
  h : PA X es (tA X.K f δ Ψ)
structure DS (X : Cx) (f : Fm) (δ : Env) (st : Stmt) (Φ : Ph) : Prop where
  h : PS X st (tS X.K f δ Φ)
structure DB (X : Cx) (f : Fm) (δ : Env) (st : List Stmt) (Φ : Ph) : Prop where
  h : PSs X st (tS X.K f δ Φ)

section
variable {X : Cx} {f : Fm} {δ : Env} {e a b c : Expr} {es rest : List Expr} {st : Stmt} {sts : List Stmt} {pos p2 : Pos} {Ψ : Rs → Env → Prop} {Θ : Bool → Env → Prop} {Λ : List Rs → Env → Prop} {Φ : Ph}
theorem pe_imp {t t' : TE} (h : PE X e t) (i : ∀ σ H Q, t' σ H Q → t σ H Q) : PE X e t' := ⟨fun pins s σ H Q I q => h.run pins s σ H Q I (i σ H Q q)⟩
theorem pt_imp {t t' : TT} (h : PT X e t) (i : ∀ σ H Q, t' σ H Q → t σ H Q) : PT X e t' := ⟨fun pins s σ H Q I q => h.run pins s σ H Q I (i σ H Q q)⟩
theorem pw_imp {t t' : TT} (h : PW X e t) (i : ∀ σ H Q, t' σ H Q → t σ H Q) : PW X e t' := ⟨fun w pins s σ H Q I q => h.run w pins s σ H Q I (i σ H Q q)⟩
theorem pa_imp {t t' : TA} (h : PA X es t) (i : ∀ σ H Q, t' σ H Q → t σ H Q) : PA X es t' := ⟨fun pos pins s σ H Q I q => h.run pos pins s σ H Q I (i σ H Q q)⟩
theorem ps_imp {t t' : TS} (h : PS X st t) (i : ∀ E σ H, t' E σ H → t E σ H) : PS X st t' := ⟨fun pins s σ H E I q => h.run pins s σ H E I (i E σ H q)⟩
theorem pb_imp {t t' : TS} (h : PSs X sts t) (i : ∀ E σ H, t' E σ H → t E σ H) : PSs X sts t' := ⟨fun pins s σ H E I q => h.run pins s σ H E I (i E σ H q)⟩
theorem DE.of {t : TE} (h : PE X e t) (i : ∀ σ H Q, tE X.K f δ Ψ σ H Q → t σ H Q) : DE X f δ e Ψ := ⟨pe_imp h i⟩
theorem DT.of {t : TT} (h : PT X e t) (i : ∀ σ H Q, tT X.K f δ Θ σ H Q → t σ H Q) : DT X f δ e Θ := ⟨pt_imp h i⟩
theorem DW.of {t : TT} (h : PW X e t) (i : ∀ σ H Q, tT X.K f δ Θ σ H Q → t σ H Q) : DW X f δ e Θ := ⟨pw_imp h i⟩
theorem DA.of {t : TA} (h : PA X es t) (i : ∀ σ H Q, tA X.K f δ Λ σ H Q → t σ H Q) : DA X f δ es Λ := ⟨pa_imp h i⟩
theorem DS.of {t : TS} (h : PS X st t) (i : ∀ E σ H, tS X.K f δ Φ E σ H → t E σ H) : DS X f δ st Φ := ⟨ps_imp h i⟩
theorem DB.of {t : TS} (h : PSs X sts t) (i : ∀ E σ H, tS X.K f δ Φ E σ H → t E σ H) : DB X f δ sts Φ := ⟨pb_imp h i⟩
/-- the universal readings: whatever is proved of it -/
def uE (X : Cx) (f : Fm) (e : Expr) : TE := fun σ H Q => ∃ δ Ψ, DE X f δ e Ψ ∧ tE X.K f δ Ψ σ H Q
def uT (X : Cx) (f : Fm) (e : Expr) : TT := fun σ H Q => ∃ δ Ψ, DT X f δ e Ψ ∧ tT X.K f δ Ψ σ H Q
def uW (X : Cx) (f : Fm) (e : Expr) : TT := fun σ H Q => ∃ δ Ψ, DW X f δ e Ψ ∧ tT X.K f δ Ψ σ H Q
def uA (X : Cx) (f : Fm) (es : List Expr) : TA := fun σ H Q => ∃ δ Ψ, DA X f δ es Ψ ∧ tA X.K f δ Ψ σ H Q
def uB (X : Cx) (f : Fm) (sts : List Stmt) : TS := fun E σ H => ∃ δ Φ, DB X f δ sts Φ ∧ tS X.K f δ Φ E σ H
theorem pe_u : PE X e (uE X f e) := ⟨fun pins s σ H Q I ⟨_, _, h, q⟩ => h.h.run pins s σ H Q I q⟩
theorem pt_u : PT X e (uT X f e) := ⟨fun pins s σ H Q I ⟨_, _, h, q⟩ => h.h.run pins s σ H Q I q⟩
theorem pw_u : PW X e (uW X f e) := ⟨fun w pins s σ H Q I ⟨_, _, h, q⟩ => h.h.run w pins s σ H Q I q⟩
theorem pa_u : PA X es (uA X f es) := ⟨fun pos pins s σ H Q I ⟨_, _, h, q⟩ => h.h.run pos pins s σ H Q I q⟩
theorem pb_u : PSs X sts (uB X f sts) := ⟨fun pins s σ H E I ⟨_, _, h, q⟩ => h.h.run pins s σ H E I q⟩
theorem DE.mono {Ψ' : Rs → Env → Prop} (h : DE X f δ e Ψ) (i : ∀ r δ', Ψ r δ' → Ψ' r δ') : DE X f δ e Ψ' := DE.of h.h fun σ H Q ⟨T, R, q⟩ => ⟨T, R, fun r δ' v H' p => q r δ' v H' (i r δ' p)⟩
theorem DT.mono {Θ' : Bool → Env → Prop} (h : DT X f δ e Θ) (i : ∀ r δ', Θ r δ' → Θ' r δ') : DT X f δ e Θ' := DT.of h.h fun σ H Q ⟨T, R, q⟩ => ⟨T, R, fun r δ' H' p => q r δ' H' (i r δ' p)⟩

/-! ### where one stands -/
structure Bd (X : Cx) (N : List Str) (sc : Scope) : Prop where
  eN : X.N = N
  eS : X.env.scope = sc
  calm : X.calm = true
  nd : N.Nodup
  pass : PassesOwn (model X.prog X.w) X.A X.env X.xe
structure Jn (X : Cx) (P : Program) (w : World) (K : PySem.W.Frag) (mg : Str → Option Value) (base : Heap) : Prop where
  prog : X.prog = P
  w : X.w = w
  K : X.K = K
  mg : X.mg = mg
  base : X.base = base
/-- what the scope says of a name; the slot of a name -/
def Nm (sc : Scope) (x : Str) (k : NameKind) : Prop := sc.names.lookup x = some k
def Sl (N : List Str) (i : Nat) (x : Str) : Prop := N[i]? = some x
abbrev Gls (sc : Scope) (x : Str) : Prop := Nm sc x .globalImplicit
/-- a name that may be stored here -/
def Sto (X : Cx) (sc : Scope) (x : Str) : Prop := sc.names.lookup x = some .local ∨ (sc.names.lookup x = some .cell ∧ ∀ x, X.fn x = true)
theorem Bd.vis {N : List Str} {sc : Scope} (B : Bd X N sc) {x : Str} (h : Vis sc x) : Vis X.env.scope x := by
  rw [B.eS]
  exact h
theorem Bd.loc {N : List Str} {sc : Scope} (B : Bd X N sc) {x : Str} (h : Sto X sc x) : Loc X.env.scope x := by
  rw [B.eS]
  exact h.elim .inl fun h => .inr h.1
theorem Bd.ix {N : List Str} {sc : Scope} (B : Bd X N sc) {i : Nat} {x : Str} (h : N[i]? = some x) : X.N[i]? = some x := by
  rw [B.eN]
  exact h
theorem Bd.ndX {N : List Str} {sc : Scope} (B : Bd X N sc) : X.N.Nodup := by
  rw [B.eN]
  exact B.nd
theorem Bd.glob {N : List Str} {sc : Scope} (B : Bd X N sc) {x : Str} (h : Gls sc x) : Gl X x := by
  show X.env.scope.names.lookup x = _
  rw [B.eS]
  exact h
theorem Bd.hf {N : List Str} {sc : Scope} (B : Bd X N sc) {x : Str} (h : Sto X sc x) : X.fn x = true ∨ X.env.scope.names.lookup x = some .local := by
  rcases h with h | h
  · exact .inr (by rw [B.eS]; exact h)
  · exact .inl (h.2 x)
variable {N : List Str} {sc : Scope}
/-- a name that is read, by its kind -/
def Own1 : NameKind → Bool
  | .local => true
  | .cell => true
  | .free => true
  | _ => false
theorem Nm.vis {x : Str} {k : NameKind} (h : Nm sc x k) (o : Own1 k = true) : Vis sc x := by
  cases k with
  | «local» => exact .inl h
  | cell => exact .inr (.inl h)
  | free => exact .inr (.inr h)
  | _ => cases o
theorem Nm.sto {x : Str} (h : Nm sc x .local) : Sto X sc x := .inl h
theorem Nm.stoC {x : Str} (h : Nm sc x .cell) (a : ∀ x, X.fn x = true) : Sto X sc x := .inr ⟨h, a⟩
/-! ### names, constants -/
theorem de_name {i : Nat} {x : Str} {d : D} (B : Bd X N sc) (hN : Sl N i x) (hv : Vis sc x) (hd : δ[i]? = some (some d)) (hi : Imm d) (k : Ψ (.v d) δ) (h1 : (x == ("__debug__" : Str)) = false := by decide) (h2 : (x == ("__classdict__" : Str)) = false := by decide) : DE X f δ (.Name x pos) Ψ :=
  DE.of (pe_var (B.ix hN) (B.vis hv) h1 h2) fun σ H Q ⟨T, R, q⟩ => by
    obtain ⟨v, e, F, o⟩ := R.slot hd
    exact ⟨v, e, q _ _ _ _ k (R.pushI o hi)⟩
theorem de_slot {i : Nat} {x : Str} {d : D} (B : Bd X N sc) (hN : Sl N i x) (hv : Vis sc x) (hd : δ[i]? = some (some d)) (k : Ψ (.s i) δ) (h1 : (x == ("__debug__" : Str)) = false := by decide) (h2 : (x == ("__classdict__" : Str)) = false := by decide) : DE X f δ (.Name x pos) Ψ :=
  DE.of (pe_var (B.ix hN) (B.vis hv) h1 h2) fun σ H Q ⟨T, R, q⟩ => by
    obtain ⟨v, e, F, o⟩ := R.slot hd
    exact ⟨v, e, q _ _ _ _ k (R.pushS e)⟩
theorem de_int {i : Int} {j} (k : Ψ (.v (.int i)) δ) : DE X f δ (.Constant (.int i) j pos) Ψ := DE.of pe_int fun σ H Q ⟨T, R, q⟩ => q _ _ _ _ k (R.pushL rfl)
theorem de_bl {i : Bool} {j} (k : Ψ (.v (.bl i)) δ) : DE X f δ (.Constant (.bool i) j pos) Ψ := DE.of pe_bl fun σ H Q ⟨T, R, q⟩ => q _ _ _ _ k (R.pushL rfl)
theorem de_non {j} (k : Ψ (.v .non) δ) : DE X f δ (.Constant .none j pos) Ψ := DE.of pe_non fun σ H Q ⟨T, R, q⟩ => q _ _ _ _ k (R.pushL rfl)
theorem de_str {i : Str} {j} (k : Ψ (.v (.str i)) δ) : DE X f δ (.Constant (.str i) j pos) Ψ := DE.of pe_str fun σ H Q ⟨T, R, q⟩ => q _ _ _ _ k (R.pushL rfl)
/-- a module's constant -/
def GlobD (K : PySem.W.Frag) (mg : Str → Option Value) (x : Str) (d : D) : Prop := Imm d ∧ ∃ v u, mg x = some u ∧ RelV v u ∧ ∀ H, OwnE K H v d fun _ => False
theorem de_glob {x : Str} {d : D} {P : Program} {w : World} {K : PySem.W.Frag} {mg : Str → Option Value} {base : Heap} (B : Bd X N sc) (J : Jn X P w K mg base) (hg : Gls sc x) (h : GlobD K mg x d) (k : Ψ (.v d) δ) (h1 : (x == ("__debug__" : Str)) = false := by decide) : DE X f δ (.Name x pos) Ψ := by
  obtain ⟨rfl, rfl, rfl, rfl, rfl⟩ := J
  obtain ⟨hi, v, u, hm, r, o⟩ := h
  exact DE.of (pe_glob (B.glob hg) hm r h1) fun σ H Q ⟨T, R, q⟩ => q _ _ _ _ k (R.pushI (o H) hi)

/-! ### two operands -/
/-- what an operation on two results must do -/
def Op2 (K : PySem.W.Frag) (f : Fm) (δ : Env) (r : R2) (ra rb : Rs) (P : D → Prop) : Prop :=
  ∀ (H : Hp) (σ : St) (T : List (V × Rs)) (x y : V) (Q : VK), Rp K f H σ δ ((y, rb) :: (x, ra) :: T) → (∀ d v H', P d → Rp K f H' σ δ ((v, .v d) :: T) → Q v H') → r x y H Q
theorem de_op2 {op : Operator} {r : R2} (ho : OpR X (binaryOp op) r) (h : DE X f δ a fun ra δ1 => DE X f δ1 b fun rb δ2 => Op2 X.K f δ2 r ra rb fun d => Ψ (.v d) δ2) : DE X f δ (.BinOp a op b pos) Ψ :=
  DE.of (pe_op ho h.h (pe_u (f := f))) fun σ H Q ⟨T, R, q⟩ => ⟨T, R, fun ra δ1 x H1 hb R1 => ⟨δ1, _, hb, (x, ra) :: T, R1, fun rb δ2 y H2 ho R2 => ho H2 σ T x y Q R2 fun d v H' p R' => q _ _ _ _ p R'⟩⟩
theorem de_cmp2 {op : CmpOp} {r : R2} (ho : OpR X (compareOp op) r) (h : DE X f δ a fun ra δ1 => DE X f δ1 b fun rb δ2 => Op2 X.K f δ2 r ra rb fun d => Ψ (.v d) δ2) (hm : behindInMarks op b = false) : DE X f δ (.Compare a [op] [b] pos) Ψ :=
  DE.of (pe_cmpR ho h.h (pe_u (f := f)) hm) fun σ H Q ⟨T, R, q⟩ => ⟨T, R, fun ra δ1 x H1 hb R1 => ⟨δ1, _, hb, (x, ra) :: T, R1, fun rb δ2 y H2 ho R2 => ho H2 σ T x y Q R2 fun d v H' p R' => q _ _ _ _ p R'⟩⟩
theorem de_ix2 {r : R2} (hr : IxR X r) (hs : PlainIx b) (h : DE X f δ a fun ra δ1 => DE X f δ1 b fun rb δ2 => Op2 X.K f δ2 r ra rb fun d => Ψ (.v d) δ2) : DE X f δ (.Subscript a b pos) Ψ :=
  DE.of (pe_ix hr h.h (pe_u (f := f)) hs) fun σ H Q ⟨T, R, q⟩ => ⟨T, R, fun ra δ1 x H1 hb R1 => ⟨δ1, _, hb, (x, ra) :: T, R1, fun rb δ2 y H2 ho R2 => ho H2 σ T x y Q R2 fun d v H' p R' => q _ _ _ _ p R'⟩⟩
end

section
variable {K : PySem.W.Frag} {f : Fm} {δ : Env} {ra rb : Rs} {P : D → Prop} {r r' : R2}
theorem op2_l (h : Op2 K f δ r ra rb P) : Op2 K f δ (fun x y H Q => r x y H Q ∨ r' x y H Q) ra rb P := fun H σ T x y Q R q => .inl (h H σ T x y Q R q)
theorem op2_r (h : Op2 K f δ r' ra rb P) : Op2 K f δ (fun x y H Q => r x y H Q ∨ r' x y H Q) ra rb P := fun H σ T x y Q R q => .inr (h H σ T x y Q R q)
theorem Rp.vint {H : Hp} {σ : St} {T : List (V × Rs)} {v : V} {i : Int} (R : Rp K f H σ δ T) (m : (v, Rs.v (.int i)) ∈ T) : v = .int i := by
  obtain ⟨F, o⟩ := R.res m rfl
  exact o.of_int
theorem Rp.vstr {H : Hp} {σ : St} {T : List (V × Rs)} {v : V} {i : Str} (R : Rp K f H σ δ T) (m : (v, Rs.v (.str i)) ∈ T) : v = .str i := by
  obtain ⟨F, o⟩ := R.res m rfl
  exact o.of_str
theorem Rp.vbl {H : Hp} {σ : St} {T : List (V × Rs)} {v : V} {i : Bool} (R : Rp K f H σ δ T) (m : (v, Rs.v (.bl i)) ∈ T) : v = .bl i := by
  obtain ⟨F, o⟩ := R.res m rfl
  exact o.of_bl
theorem Rp.vleaf {H : Hp} {σ : St} {T : List (V × Rs)} {v w : V} {d : D} (R : Rp K f H σ δ T) (m : (v, Rs.v d) ∈ T) (h : leaf d = some w) : v = w := by
  obtain ⟨F, o⟩ := R.res m rfl
  exact o.of_leaf h
theorem op2_I0 {g : Int → Int → V} {k : Int → Int → D} (hg : ∀ i j, leaf (k i j) = some (g i j)) {i j : Int} (p : P (k i j)) : Op2 K f δ (rI0 g) (.v (.int i)) (.v (.int j)) P := fun H σ T x y Q R q => by
  cases R.vint (v := y) (i := j) (by simp)
  cases R.vint (v := x) (i := i) (by simp)
  exact ⟨i, j, rfl, rfl, q _ _ _ p (R.tail2.pushL (hg i j))⟩
theorem op2_I {C : Int → Int → Prop} {g : Int → Int → V} {k : Int → Int → D} (hg : ∀ i j, leaf (k i j) = some (g i j)) {i j : Int} (hc : C i j) (p : P (k i j)) : Op2 K f δ (rI C g) (.v (.int i)) (.v (.int j)) P := fun H σ T x y Q R q => by
  cases R.vint (v := y) (i := j) (by simp)
  cases R.vint (v := x) (i := i) (by simp)
  exact ⟨i, j, rfl, rfl, hc, q _ _ _ p (R.tail2.pushL (hg i j))⟩
/-- the items of what may be read as a row of items -/
def itemsOf : D → Option (List D)
  | .tup xs => some xs
  | .lst xs => some xs
  | .fz xs => some xs
  | _ => none
theorem own_items {H : Hp} {v : V} {d : D} {ds : List D} {F : Fp} (o : OwnE K H v d F) (h : itemsOf d = some ds) : ∃ p vs, v = .ref p ∧ (SqL K H p vs ∨ SqT K H p vs) ∧ vs.length = ds.length ∧ ∃ F', Sep (OwnE K H) (vs.zip ds) F' := by
  cases d with
  | tup xs =>
    cases h
    obtain ⟨a, vs, rfl, h2, h3, F', h4, _⟩ := o.of_node rfl (fun _ _ q => nomatch q)
    exact ⟨a, vs, rfl, .inr h2, h3, F', h4⟩
  | lst xs =>
    cases h
    obtain ⟨a, vs, rfl, h2, h3, F', h4, _⟩ := o.of_node rfl (fun _ _ q => nomatch q)
    exact ⟨a, vs, rfl, .inl (SqL.of h2), h3, F', h4⟩
  | fz xs =>
    cases h
    obtain ⟨a, vs, rfl, h2, h3, F', h4, _⟩ := o.of_node rfl (fun _ _ q => nomatch q)
    refine ⟨a, vs, rfl, .inl ?_, h3, F', h4⟩
    rcases h2 with ⟨o, h2⟩ | h2
    · exact .inl (.inr ⟨o, h2⟩)
    · exact .inr h2
  | _ => cases h
theorem own_lst {H : Hp} {v : V} {ds : List D} {F : Fp} (o : OwnE K H v (.lst ds) F) : ∃ p vs, v = .ref p ∧ H p = some (.lst vs) ∧ vs.length = ds.length ∧ ∃ F', Sep (OwnE K H) (vs.zip ds) F' := by
  obtain ⟨a, vs, rfl, h2, h3, F', h4, _⟩ := o.of_node rfl (fun _ _ q => nomatch q)
  exact ⟨a, vs, rfl, h2, h3, F', h4⟩
theorem own_tup {H : Hp} {v : V} {ds : List D} {F : Fp} (o : OwnE K H v (.tup ds) F) : ∃ p vs, v = .ref p ∧ SqT K H p vs ∧ vs.length = ds.length ∧ ∃ F', Sep (OwnE K H) (vs.zip ds) F' := by
  obtain ⟨a, vs, rfl, h2, h3, F', h4, _⟩ := o.of_node rfl (fun _ _ q => nomatch q)
  exact ⟨a, vs, rfl, h2, h3, F', h4⟩
theorem zip_get {vs : List V} {ds : List D} (hl : vs.length = ds.length) {j : Nat} {d : D} (h : ds[j]? = some d) : ∃ v, vs[j]? = some v ∧ (vs.zip ds)[j]? = some (v, d) := by
  have hj := (List.getElem?_eq_some_iff.mp h).1
  refine ⟨vs[j]'(by omega), List.getElem?_eq_getElem (by omega), ?_⟩
  rw [List.getElem?_zip_eq_some]
  exact ⟨List.getElem?_eq_getElem (by omega), h⟩
theorem atI_zip {vs : List V} {ds : List D} (hl : vs.length = ds.length) {i : Int} {d : D} (h : atI ds i = some d) : ∃ v, atI vs i = some v ∧ (v, d) ∈ vs.zip ds := by
  unfold atI at h ⊢
  rw [hl]
  cases q : ixN ds.length i with
  | none => rw [q] at h; cases h
  | some j =>
    rw [q] at h
    obtain ⟨v, e1, e2⟩ := zip_get hl (show ds[j]? = some d from h)
    exact ⟨v, e1, List.mem_of_getElem? e2⟩
/-- xs[i] of a list, a tuple, a frozen list; the item can be copied -/
theorem op2_ix {d : D} {ds : List D} {i : Int} {d' : D} (h : rsv δ ra = some d) (hi : itemsOf d = some ds) (ha : atI ds i = some d') (im : Imm d') (p : P d') : Op2 K f δ (rIx K) ra (.v (.int i)) P := fun H σ T x y Q R q => by
  cases R.vint (v := y) (i := i) (by simp)
  obtain ⟨F, o⟩ := R.res (v := x) (r := ra) (by simp) h
  obtain ⟨p', vs, rfl, hs, hl, F', sp⟩ := own_items o hi
  obtain ⟨v, e1, e2⟩ := atI_zip hl ha
  obtain ⟨F2, o2, _⟩ := sp.getm e2
  have R' : Rp K f H σ δ ((v, .v d') :: T) := R.tail2.pushI o2 im
  rcases hs with hs | hs
  · exact .inl ⟨p', vs, i, v, rfl, rfl, hs, e1, q _ _ _ p R'⟩
  · exact .inr (.inl ⟨p', vs, i, v, rfl, rfl, hs, e1, q _ _ _ p R'⟩)
theorem op2_ixS {z : Str} {i : Int} {c : Nat} (hz : z.length ≤ sizeLine) (ha : atI z.cps.toList i = some c) (p : P (.str ⟨#[c]⟩)) : Op2 K f δ (rIx K) (.v (.str z)) (.v (.int i)) P := fun H σ T x y Q R q => by
  cases R.vint (v := y) (i := i) (by simp)
  cases R.vstr (v := x) (i := z) (by simp)
  exact .inr (.inr ⟨z, i, c, rfl, rfl, hz, ha, q _ _ _ p (R.tail2.pushL rfl)⟩)
end

/-- both ints -/
inductive I2 : Rs → Rs → (Int → Int → Prop) → Prop
  | mk {i j : Int} {P : Int → Int → Prop} : P i j → I2 (.v (.int i)) (.v (.int j)) P
/-- both leaves -/
inductive L2s : Rs → Rs → (V → V → Prop) → Prop
  | mk {d e : D} {v w : V} {P : V → V → Prop} : leaf d = some v → leaf e = some w → P v w → L2s (.v d) (.v e) P
/-! ### + -/
def rAdd (K : PySem.W.Frag) : R2 := fun x y H Q => (rI0 (fun i j => .int (i + j)) x y H Q ∨ (∃ i j, x = .str i ∧ y = .str j ∧ i.length + j.length ≤ sizeLine ∧ Q (.str (i ++ j)) H)) ∨ (rCat x y H Q ∨ rCatA K x y H Q)
theorem op_addA {X : Cx} : OpR X (binaryOp .Add) (rAdd X.K) := OpR.or (OpR.or op_add op_add_str) (OpR.or op_cat op_catA)
inductive AddS (δ : Env) : Rs → Rs → (D → Prop) → Prop
  | int {i j : Int} {P : D → Prop} : P (.int (i + j)) → AddS δ (.v (.int i)) (.v (.int j)) P
  | str {i j : Str} {P : D → Prop} : i.length + j.length ≤ sizeLine → P (.str (i ++ j)) → AddS δ (.v (.str i)) (.v (.str j)) P
  | lst {ra rb : Rs} {xs ys : List D} {P : D → Prop} : rsv δ ra = some (.lst xs) → rsv δ rb = some (.lst ys) → (∀ x ∈ xs ++ ys, Imm x) → xs.length + ys.length ≤ sizeLine → P (.lst (xs ++ ys)) → AddS δ ra rb P
  | tup {ra rb : Rs} {xs ys : List D} {P : D → Prop} : rsv δ ra = some (.tup xs) → rsv δ rb = some (.tup ys) → (∀ x ∈ xs ++ ys, Imm x) → xs.length + ys.length ≤ sizeLine → P (.tup (xs ++ ys)) → AddS δ ra rb P
section
variable {K : PySem.W.Frag} {f : Fm} {δ : Env} {ra rb : Rs} {P : D → Prop} {r r' : R2}
theorem zip_app {vs ws : List V} {xs ys : List D} (h : vs.length = xs.length) : (vs ++ ws).zip (xs ++ ys) = vs.zip xs ++ ws.zip ys := List.zip_append h
theorem Rp.newI {H : Hp} {σ : St} {T : List (V × Rs)} {p : Addr} {o : HO} {d : D} {vs : List V} (R : Rp K f H σ δ T) (hp : H p = none) (hn : Node K (upd H p o) d p vs) (hl : vs.length = (kids d).length)
    (hk : ∀ c ∈ vs.zip (kids d), OwnE K H c.1 c.2 fun _ => False) : Rp K f (upd H p o) σ δ ((.ref p, .v d) :: T) :=
  Rp.node (cs := []) R hp hn hl fun F _ => (Sep.freeAll hk).monoF fun _ q => q.elim
theorem sep_imm {H : Hp} {F : Fp} {vs : List V} {ds : List D} (s : Sep (OwnE K H) (vs.zip ds) F) (hi : ∀ x ∈ ds, Imm x) : ∀ c ∈ vs.zip ds, OwnE K H c.1 c.2 fun _ => False := fun c m => by
  obtain ⟨F1, o, _⟩ := s.getm (v := c.1) (d := c.2) m
  exact hi _ (zip_snd m) _ _ _ _ o
theorem AddS.op (h : AddS δ ra rb P) : Op2 K f δ (rAdd K) ra rb P := by
  cases h with
  | int p => exact op2_l (op2_l (op2_I0 (k := fun i j => .int (i + j)) (fun _ _ => rfl) p))
  | @str i j _ hz p =>
    intro H σ T x y Q R q
    cases R.vstr (v := y) (i := j) (by simp)
    cases R.vstr (v := x) (i := i) (by simp)
    exact .inl (.inr ⟨i, j, rfl, rfl, hz, q _ _ _ p (R.tail2.pushL rfl)⟩)
  | @lst _ _ xs ys _ h1 h2 hi hz p =>
    intro H σ T x y Q R q
    obtain ⟨F, o1⟩ := R.res (v := x) (r := ra) (by simp) h1
    obtain ⟨F, o2⟩ := R.res (v := y) (r := rb) (by simp) h2
    obtain ⟨l, vs, rfl, e1, l1, F1, s1⟩ := own_lst o1
    obtain ⟨b, ws, rfl, e2, l2, F2, s2⟩ := own_lst o2
    refine .inr (.inl ⟨l, b, vs, ws, rfl, rfl, e1, e2, by omega, fun p' hp => q _ _ _ p ?_⟩)
    refine R.tail2.newI hp (show upd H p' _ p' = _ from upd_same) (by show (vs ++ ws).length = (xs ++ ys).length; simp [l1, l2]) fun c m => ?_
    have m' : c ∈ (vs ++ ws).zip (xs ++ ys) := m
    rw [zip_app l1] at m'
    rcases List.mem_append.mp m' with m' | m'
    · exact sep_imm s1 (fun x hx => hi x (List.mem_append_left _ hx)) c m'
    · exact sep_imm s2 (fun x hx => hi x (List.mem_append_right _ hx)) c m'
  | @tup _ _ xs ys _ h1 h2 hi hz p =>
    intro H σ T x y Q R q
    obtain ⟨F, o1⟩ := R.res (v := x) (r := ra) (by simp) h1
    obtain ⟨F, o2⟩ := R.res (v := y) (r := rb) (by simp) h2
    have i1 : Imm (.tup xs) := imm_tup fun x hx => hi x (List.mem_append_left _ hx)
    have i2 : Imm (.tup ys) := imm_tup fun x hx => hi x (List.mem_append_right _ hx)
    obtain ⟨l, vs, rfl, e1, l1, F1, s1⟩ := own_tup o1
    obtain ⟨b, ws, rfl, e2, l2, F2, s2⟩ := own_tup o2
    refine .inr (.inr ⟨l, b, vs, ws, rfl, rfl, e1, e2, by omega, fun hx => ?_, fun _ hy => ?_, fun _ _ p' hp => q _ _ _ p ?_⟩)
    · have ex : xs = [] := List.length_eq_zero_iff.mp (by rw [← l1, hx]; rfl)
      subst ex
      exact q _ _ _ p (R.tail2.pushI o2 i2)
    · have ex : ys = [] := List.length_eq_zero_iff.mp (by rw [← l2, hy]; rfl)
      subst ex
      rw [List.append_nil] at p
      exact q _ _ _ p (R.tail2.pushI o1 i1)
    · refine R.tail2.newI hp (show SqT K (upd H p' _) p' _ from SqT.of upd_same) (by show (vs ++ ws).length = (xs ++ ys).length; simp [l1, l2]) fun c m => ?_
      have m' : c ∈ (vs ++ ws).zip (xs ++ ys) := m
      rw [zip_app l1] at m'
      rcases List.mem_append.mp m' with m' | m'
      · exact sep_imm s1 (fun x hx => hi x (List.mem_append_left _ hx)) c m'
      · exact sep_imm s2 (fun x hx => hi x (List.mem_append_right _ hx)) c m'
end
section
variable {X : Cx} {f : Fm} {δ : Env} {e a b c : Expr} {es rest : List Expr} {st : Stmt} {sts : List Stmt} {pos p2 : Pos} {Ψ : Rs → Env → Prop} {Θ : Bool → Env → Prop} {Λ : List Rs → Env → Prop} {Φ : Ph}
theorem de_add (h : DE X f δ a fun ra δ1 => DE X f δ1 b fun rb δ2 => AddS δ2 ra rb fun d => Ψ (.v d) δ2) : DE X f δ (.BinOp a .Add b pos) Ψ :=
  de_op2 op_addA (h.mono fun _ _ h => h.mono fun _ _ h => h.op)
theorem de_sub (h : DE X f δ a fun ra δ1 => DE X f δ1 b fun rb δ2 => I2 ra rb fun i j => Ψ (.v (.int (i - j))) δ2) : DE X f δ (.BinOp a .Sub b pos) Ψ :=
  de_op2 op_sub (h.mono fun _ _ h => h.mono fun _ _ k => by cases k with | mk k => exact op2_I0 (k := fun i j => .int (i - j)) (fun _ _ => rfl) k)
theorem de_mod (h : DE X f δ a fun ra δ1 => DE X f δ1 b fun rb δ2 => I2 ra rb fun i j => 0 < j ∧ Ψ (.v (.int (i % j))) δ2) : DE X f δ (.BinOp a .Mod b pos) Ψ :=
  de_op2 op_mod (h.mono fun _ _ h => h.mono fun _ _ k => by cases k with | mk k => exact op2_I (k := fun i j => .int (i % j)) (fun _ _ => rfl) k.1 k.2)
theorem de_fdiv (h : DE X f δ a fun ra δ1 => DE X f δ1 b fun rb δ2 => I2 ra rb fun i j => (0 < j ∧ j < 1073741824) ∧ Ψ (.v (.int (i / j))) δ2) : DE X f δ (.BinOp a .FloorDiv b pos) Ψ :=
  de_op2 op_fdiv (h.mono fun _ _ h => h.mono fun _ _ k => by cases k with | mk k => exact op2_I (k := fun i j => .int (i / j)) (fun _ _ => rfl) k.1 k.2)
theorem de_pow (h : DE X f δ a fun ra δ1 => DE X f δ1 b fun rb δ2 => I2 ra rb fun i j => CPow i j ∧ Ψ (.v (.int (i ^ j.toNat))) δ2) : DE X f δ (.BinOp a .Pow b pos) Ψ :=
  de_op2 op_pow (h.mono fun _ _ h => h.mono fun _ _ k => by cases k with | mk k => exact op2_I (k := fun i j => .int (i ^ j.toNat)) (fun _ _ => rfl) k.1 k.2)
/-- xs[i] -/
inductive IxS (δ : Env) : Rs → Rs → (D → Prop) → Prop
  | seq {ra : Rs} {d : D} {ds : List D} {i : Int} {d' : D} {P : D → Prop} : rsv δ ra = some d → itemsOf d = some ds → atI ds i = some d' → Imm d' → P d' → IxS δ ra (.v (.int i)) P
  | str {z : Str} {i : Int} {c : Nat} {P : D → Prop} : z.length ≤ sizeLine → atI z.cps.toList i = some c → P (.str ⟨#[c]⟩) → IxS δ (.v (.str z)) (.v (.int i)) P
theorem IxS.op {K : PySem.W.Frag} {ra rb : Rs} {P : D → Prop} (h : IxS δ ra rb P) : Op2 K f δ (rIx K) ra rb P := by
  cases h with
  | seq h1 h2 h3 h4 p => exact op2_ix h1 h2 h3 h4 p
  | str h1 h2 p => exact op2_ixS h1 h2 p
theorem de_ix (h : DE X f δ a fun ra δ1 => DE X f δ1 b fun rb δ2 => IxS δ2 ra rb fun d => Ψ (.v d) δ2) (hs : PlainIx b := by exact fun _ _ => rfl) : DE X f δ (.Subscript a b pos) Ψ :=
  de_ix2 ix_seq hs (h.mono fun _ _ h => h.mono fun _ _ h => h.op)

/-! ### tests -/
theorem dt_val (h : DE X f δ e fun r δ1 => ∃ b, r = .v (.bl b) ∧ Θ b δ1) (he : ∀ whole, isTrue e X.env whole = (do let v ← whole; standAt e.pos; holding [v] (truthy v)) := by intro _; rfl) : DT X f δ e Θ :=
  DT.of (pt_val h.h he) fun σ H Q ⟨T, R, q⟩ => ⟨T, R, fun r δ' v H' ⟨b, e, k⟩ R' => by
    subst e
    cases R'.vbl (v := v) (i := b) (by simp)
    exact ⟨b, rfl, q b δ' H' k R'.tail⟩⟩
theorem dt_not (h : DT X f δ a fun b δ1 => Θ (!b) δ1) : DT X f δ (.UnaryOp .Not a pos) Θ :=
  DT.of (pt_not h.h) fun σ H Q ⟨T, R, q⟩ => ⟨T, R, fun b δ' H' k R' => q (!b) δ' H' k R'⟩
theorem dt_pw (h : DW X f δ e Θ) : DT X f δ e Θ := ⟨PW.pt h.h⟩
theorem dw_and1 (h : DT X f δ a Θ) : DW X f δ (.BoolOp .And [a] pos) Θ := ⟨pw_and1 h.h⟩
theorem dw_or1 (h : DT X f δ a Θ) : DW X f δ (.BoolOp .Or [a] pos) Θ := ⟨pw_or1 h.h⟩
theorem dw_and (h : DT X f δ a fun c δ1 => (c = true → DW X f δ1 (.BoolOp .And (b :: rest) pos) Θ) ∧ (c = false → Θ false δ1)) : DW X f δ (.BoolOp .And (a :: b :: rest) pos) Θ :=
  DW.of (pw_and h.h (pw_u (f := f))) fun σ H Q ⟨T, R, q⟩ => ⟨T, R, fun c δ' H' k R' => by
    cases c with
    | true => exact ⟨δ', _, k.1 rfl, T, R', q⟩
    | false => exact q _ _ _ (k.2 rfl) R'⟩
theorem dw_or (h : DT X f δ a fun c δ1 => (c = false → DW X f δ1 (.BoolOp .Or (b :: rest) pos) Θ) ∧ (c = true → Θ true δ1)) : DW X f δ (.BoolOp .Or (a :: b :: rest) pos) Θ :=
  DW.of (pw_or h.h (pw_u (f := f))) fun σ H Q ⟨T, R, q⟩ => ⟨T, R, fun c δ' H' k R' => by
    cases c with
    | true => exact q _ _ _ (k.2 rfl) R'
    | false => exact ⟨δ', _, k.1 rfl, T, R', q⟩⟩
theorem de_if (h : DT X f δ c fun t δ1 => (t = true → DE X f δ1 a Ψ) ∧ (t = false → DE X f δ1 b Ψ)) : DE X f δ (.IfExp c a b pos) Ψ :=
  DE.of (pe_ifExp h.h (pe_u (f := f)) (pe_u (f := f))) fun σ H Q ⟨T, R, q⟩ => ⟨T, R, fun c δ' H' k R' => by
    cases c with
    | true => exact ⟨δ', _, k.1 rfl, T, R', q⟩
    | false => exact ⟨δ', _, k.2 rfl, T, R', q⟩⟩
/-! ### comparisons: one word for values and tests -/
def CmpOk (X : Cx) (f : Fm) (op : CmpOp) (S : Env → Rs → Rs → (Bool → Prop) → Prop) : Prop :=
  ∃ r, OpR X (compareOp op) r ∧ ∀ δ ra rb P, S δ ra rb P → Op2 X.K f δ r ra rb fun d => ∃ b, d = .bl b ∧ P b
theorem de_cmp {op : CmpOp} {S : Env → Rs → Rs → (Bool → Prop) → Prop} (c : CmpOk X f op S) (h : DE X f δ a fun ra δ1 => DE X f δ1 b fun rb δ2 => S δ2 ra rb fun t => Ψ (.v (.bl t)) δ2) (hm : behindInMarks op b = false) : DE X f δ (.Compare a [op] [b] pos) Ψ := by
  obtain ⟨r, ho, hs⟩ := c
  exact de_cmp2 ho (h.mono fun _ _ h => h.mono fun _ _ k => fun H σ T x y Q R q => hs _ _ _ _ k H σ T x y Q R fun d v H' ⟨t, e, p⟩ R' => by
    subst e
    exact q _ _ _ p R') hm
theorem dt_cmp {op : CmpOp} {S : Env → Rs → Rs → (Bool → Prop) → Prop} (c : CmpOk X f op S) (h : DE X f δ a fun ra δ1 => DE X f δ1 b fun rb δ2 => S δ2 ra rb fun t => Θ t δ2) (hm : behindInMarks op b = false) : DT X f δ (.Compare a [op] [b] pos) Θ := by
  obtain ⟨r, ho, hs⟩ := c
  exact DT.of (pt_cmpR ho h.h (pe_u (f := f)) hm) fun σ H Q ⟨T, R, q⟩ => ⟨T, R, fun ra δ1 x H1 hb R1 => ⟨δ1, _, hb, (x, ra) :: T, R1, fun rb δ2 y H2 k R2 => hs _ _ _ _ k H2 σ T x y _ R2 fun d v H' ⟨t, e, p⟩ R' => by
    subst e
    cases R'.vbl (v := v) (i := t) (by simp)
    exact ⟨t, rfl, q _ _ _ p R'.tail⟩⟩⟩
theorem cmp_I {op : CmpOp} {g : Int → Int → Bool} (ho : OpR X (compareOp op) (rI0 fun i j => .bl (g i j))) : CmpOk X f op fun _ ra rb P => I2 ra rb fun i j => P (g i j) :=
  ⟨_, ho, fun δ ra rb P h => by cases h with | mk k => exact op2_I0 (k := fun i j => .bl (g i j)) (fun _ _ => rfl) ⟨_, rfl, k⟩⟩
theorem cmp_lt : CmpOk X f .Lt fun _ ra rb P => I2 ra rb fun i j => P (decide (i < j)) := cmp_I op_lt
theorem cmp_le : CmpOk X f .LtE fun _ ra rb P => I2 ra rb fun i j => P (decide (i ≤ j)) := cmp_I op_le
theorem cmp_gt : CmpOk X f .Gt fun _ ra rb P => I2 ra rb fun i j => P (decide (j < i)) := cmp_I op_gt
theorem cmp_ge : CmpOk X f .GtE fun _ ra rb P => I2 ra rb fun i j => P (decide (j ≤ i)) := cmp_I op_ge
theorem cmp_eqL : CmpOk X f .Eq fun _ ra rb P => L2s ra rb fun va vb => scal va vb = true ∧ P (decide (va = vb)) :=
  ⟨_, op_eq, fun δ ra rb P h => by
    cases h with
    | mk la lb k =>
      intro H σ T x y Q R q
      cases R.vleaf (v := y) (by simp) lb
      cases R.vleaf (v := x) (by simp) la
      exact ⟨k.1, q (.bl _) _ _ ⟨_, rfl, k.2⟩ (R.tail2.pushL rfl)⟩⟩
theorem cmp_neL : CmpOk X f .NotEq fun _ ra rb P => L2s ra rb fun va vb => scal va vb = true ∧ P (!decide (va = vb)) :=
  ⟨_, op_ne, fun δ ra rb P h => by
    cases h with
    | mk la lb k =>
      intro H σ T x y Q R q
      cases R.vleaf (v := y) (by simp) lb
      cases R.vleaf (v := x) (by simp) la
      exact ⟨k.1, q (.bl _) _ _ ⟨_, rfl, k.2⟩ (R.tail2.pushL rfl)⟩⟩
/-- is None, is not None -/
inductive IsN : Rs → Rs → (Bool → Prop) → Prop
  | yes {P : Bool → Prop} : P true → IsN (.v .non) (.v .non) P
  | no {d : D} {P : Bool → Prop} : (∀ v, leaf d = some v → v ≠ .non) → (∀ v e, d ≠ .tg v e) → P false → IsN (.v d) (.v .non) P
theorem isN_ok {K : PySem.W.Frag} {ra rb : Rs} {P : Bool → Prop} {H : Hp} {σ : St} {T : List (V × Rs)} {x y : V} (h : IsN ra rb P) (R : Rp K f H σ δ ((y, rb) :: (x, ra) :: T)) : y = .non ∧ P (decide (x = .non)) := by
  cases h with
  | yes p =>
    cases R.vleaf (v := y) (w := .non) (d := .non) (by simp) rfl
    cases R.vleaf (v := x) (w := .non) (d := .non) (by simp) rfl
    exact ⟨rfl, p⟩
  | @no d _ hl ht p =>
    cases R.vleaf (v := y) (w := .non) (d := .non) (by simp) rfl
    obtain ⟨F, o⟩ := R.res (v := x) (r := .v d) (by simp) rfl
    refine ⟨rfl, ?_⟩
    have : x ≠ .non := by
      rcases o.inv with h | ⟨e, h1, _⟩ | ⟨a, vs, h1, _⟩
      · exact hl x h
      · exact absurd h1 (ht _ _)
      · rw [h1]; exact fun q => nomatch q
    rw [decide_eq_false this]
    exact p
theorem cmp_is : CmpOk X f .Is fun _ ra rb P => IsN ra rb P :=
  ⟨_, op_isN, fun δ ra rb P h H σ T x y Q R q => by
    obtain ⟨h1, h2⟩ := isN_ok h R
    exact ⟨h1, q (.bl _) _ _ ⟨_, rfl, h2⟩ (R.tail2.pushL rfl)⟩⟩
theorem cmp_isnot : CmpOk X f .IsNot fun _ ra rb P => IsN ra rb fun b => P (!b) :=
  ⟨_, op_notN, fun δ ra rb P h H σ T x y Q R q => by
    obtain ⟨h1, h2⟩ := isN_ok h R
    exact ⟨h1, q (.bl _) _ _ ⟨_, rfl, h2⟩ (R.tail2.pushL rfl)⟩⟩
theorem dt_lt (h : DE X f δ a fun ra δ1 => DE X f δ1 b fun rb δ2 => I2 ra rb fun i j => Θ (decide (i < j)) δ2) : DT X f δ (.Compare a [.Lt] [b] pos) Θ := dt_cmp cmp_lt h (nomark _)
theorem de_lt (h : DE X f δ a fun ra δ1 => DE X f δ1 b fun rb δ2 => I2 ra rb fun i j => Ψ (.v (.bl (decide (i < j)))) δ2) : DE X f δ (.Compare a [.Lt] [b] pos) Ψ := de_cmp cmp_lt h (nomark _)
theorem dt_le (h : DE X f δ a fun ra δ1 => DE X f δ1 b fun rb δ2 => I2 ra rb fun i j => Θ (decide (i ≤ j)) δ2) : DT X f δ (.Compare a [.LtE] [b] pos) Θ := dt_cmp cmp_le h (nomark _)
theorem de_le (h : DE X f δ a fun ra δ1 => DE X f δ1 b fun rb δ2 => I2 ra rb fun i j => Ψ (.v (.bl (decide (i ≤ j)))) δ2) : DE X f δ (.Compare a [.LtE] [b] pos) Ψ := de_cmp cmp_le h (nomark _)
theorem dt_gt (h : DE X f δ a fun ra δ1 => DE X f δ1 b fun rb δ2 => I2 ra rb fun i j => Θ (decide (j < i)) δ2) : DT X f δ (.Compare a [.Gt] [b] pos) Θ := dt_cmp cmp_gt h (nomark _)
theorem de_gt (h : DE X f δ a fun ra δ1 => DE X f δ1 b fun rb δ2 => I2 ra rb fun i j => Ψ (.v (.bl (decide (j < i)))) δ2) : DE X f δ (.Compare a [.Gt] [b] pos) Ψ := de_cmp cmp_gt h (nomark _)
theorem dt_ge (h : DE X f δ a fun ra δ1 => DE X f δ1 b fun rb δ2 => I2 ra rb fun i j => Θ (decide (j ≤ i)) δ2) : DT X f δ (.Compare a [.GtE] [b] pos) Θ := dt_cmp cmp_ge h (nomark _)
theorem de_ge (h : DE X f δ a fun ra δ1 => DE X f δ1 b fun rb δ2 => I2 ra rb fun i j => Ψ (.v (.bl (decide (j ≤ i)))) δ2) : DE X f δ (.Compare a [.GtE] [b] pos) Ψ := de_cmp cmp_ge h (nomark _)
theorem dt_eqL (h : DE X f δ a fun ra δ1 => DE X f δ1 b fun rb δ2 => L2s ra rb fun va vb => scal va vb = true ∧ Θ (decide (va = vb)) δ2) : DT X f δ (.Compare a [.Eq] [b] pos) Θ := dt_cmp cmp_eqL h (nomark _)
theorem de_eqL (h : DE X f δ a fun ra δ1 => DE X f δ1 b fun rb δ2 => L2s ra rb fun va vb => scal va vb = true ∧ Ψ (.v (.bl (decide (va = vb)))) δ2) : DE X f δ (.Compare a [.Eq] [b] pos) Ψ := de_cmp cmp_eqL h (nomark _)
theorem dt_neL (h : DE X f δ a fun ra δ1 => DE X f δ1 b fun rb δ2 => L2s ra rb fun va vb => scal va vb = true ∧ Θ (!decide (va = vb)) δ2) : DT X f δ (.Compare a [.NotEq] [b] pos) Θ := dt_cmp cmp_neL h (nomark _)
theorem de_neL (h : DE X f δ a fun ra δ1 => DE X f δ1 b fun rb δ2 => L2s ra rb fun va vb => scal va vb = true ∧ Ψ (.v (.bl (!decide (va = vb)))) δ2) : DE X f δ (.Compare a [.NotEq] [b] pos) Ψ := de_cmp cmp_neL h (nomark _)
theorem dt_is (h : DE X f δ a fun ra δ1 => DE X f δ1 b fun rb δ2 => IsN ra rb fun t => Θ t δ2) : DT X f δ (.Compare a [.Is] [b] pos) Θ := dt_cmp cmp_is h (nomark _)
theorem de_is (h : DE X f δ a fun ra δ1 => DE X f δ1 b fun rb δ2 => IsN ra rb fun t => Ψ (.v (.bl t)) δ2) : DE X f δ (.Compare a [.Is] [b] pos) Ψ := de_cmp cmp_is h (nomark _)
theorem dt_isnot (h : DE X f δ a fun ra δ1 => DE X f δ1 b fun rb δ2 => IsN ra rb fun t => Θ (!t) δ2) : DT X f δ (.Compare a [.IsNot] [b] pos) Θ := dt_cmp cmp_isnot h (nomark _)
theorem de_isnot (h : DE X f δ a fun ra δ1 => DE X f δ1 b fun rb δ2 => IsN ra rb fun t => Ψ (.v (.bl (!t))) δ2) : DE X f δ (.Compare a [.IsNot] [b] pos) Ψ := de_cmp cmp_isnot h (nomark _)
/-- a op b op' c of ints -/
inductive Ch : Rs → Rs → Rs → (Int → Int → Int → Prop) → Prop
  | mk {i j k : Int} {P : Int → Int → Int → Prop} : P i j k → Ch (.v (.int i)) (.v (.int j)) (.v (.int k)) P
theorem de_chain {op op' : CmpOp} {g g' : Int → Int → Bool} (ho : OpR X (compareOp op) (rI0 fun i j => .bl (g i j))) (ho' : OpR X (compareOp op') (rI0 fun i j => .bl (g' i j)))
    (h : DE X f δ a fun ra δ1 => DE X f δ1 b fun rb δ2 => I2 ra rb fun i j => (g i j = true → DE X f δ2 c fun rc δ3 => ∃ k, rc = .v (.int k) ∧ Ψ (.v (.bl (g' j k))) δ3) ∧ (g i j = false → Ψ (.v (.bl false)) δ2)) (hm : lastMarks [op, op'] [b, c] = false := by with_unfolding_all rfl) :
    DE X f δ (.Compare a [op, op'] [b, c] pos) Ψ :=
  DE.of (pe_chain ho ho' h.h (pe_u (f := f)) (pe_u (f := f)) hm) fun σ H Q ⟨T, R, q⟩ => ⟨T, R, fun ra δ1 x H1 hb R1 => ⟨δ1, _, hb, _, R1, fun rb δ2 y H2 k R2 => by
    cases k with
    | @mk i j _ k =>
      cases R2.vint (v := y) (i := j) (by simp)
      cases R2.vint (v := x) (i := i) (by simp)
      refine ⟨i, j, rfl, rfl, g i j, rfl, ?_⟩
      cases e : g i j with
      | true =>
        rw [if_pos rfl]
        refine ⟨δ2, _, k.1 e, T, R2.tail2, fun rc δ3 z H3 ⟨m, e3, k3⟩ R3 => ?_⟩
        subst e3
        cases R3.vint (v := z) (i := m) (by simp)
        exact ⟨j, m, rfl, rfl, q _ _ _ _ k3 (R3.tail.pushL rfl)⟩
      | false =>
        rw [if_neg Bool.false_ne_true]
        exact q _ _ _ _ (k.2 e) (R2.tail2.pushL rfl)⟩⟩
theorem dt_chain {op op' : CmpOp} {g g' : Int → Int → Bool} (ho : OpR X (compareOp op) (rI0 fun i j => .bl (g i j))) (ho' : OpR X (compareOp op') (rI0 fun i j => .bl (g' i j)))
    (h : DE X f δ a fun ra δ1 => DE X f δ1 b fun rb δ2 => I2 ra rb fun i j => (g i j = true → DE X f δ2 c fun rc δ3 => ∃ k, rc = .v (.int k) ∧ Θ (g' j k) δ3) ∧ (g i j = false → Θ false δ2)) (hm : lastMarks [op, op'] [b, c] = false := by with_unfolding_all rfl) :
    DT X f δ (.Compare a [op, op'] [b, c] pos) Θ :=
  DT.of (pt_chain ho ho' h.h (pe_u (f := f)) (pe_u (f := f)) hm) fun σ H Q ⟨T, R, q⟩ => ⟨T, R, fun ra δ1 x H1 hb R1 => ⟨δ1, _, hb, _, R1, fun rb δ2 y H2 k R2 => by
    cases k with
    | @mk i j _ k =>
      cases R2.vint (v := y) (i := j) (by simp)
      cases R2.vint (v := x) (i := i) (by simp)
      refine ⟨i, j, rfl, rfl, g i j, rfl, ?_⟩
      cases e : g i j with
      | true =>
        rw [if_pos rfl]
        refine ⟨δ2, _, k.1 e, T, R2.tail2, fun rc δ3 z H3 ⟨m, e3, k3⟩ R3 => ?_⟩
        subst e3
        cases R3.vint (v := z) (i := m) (by simp)
        exact ⟨j, m, rfl, rfl, _, rfl, q _ _ _ k3 R3.tail⟩
      | false =>
        rw [if_neg Bool.false_ne_true]
        exact ⟨_, rfl, q _ _ _ (k.2 e) R2.tail2⟩⟩⟩

theorem de_lele (h : DE X f δ a fun ra δ1 => DE X f δ1 b fun rb δ2 => I2 ra rb fun i j => (decide (i ≤ j) = true → DE X f δ2 c fun rc δ3 => ∃ k, rc = .v (.int k) ∧ Ψ (.v (.bl (decide (j ≤ k)))) δ3) ∧ (decide (i ≤ j) = false → Ψ (.v (.bl false)) δ2)) (hm : lastMarks [.LtE, .LtE] [b, c] = false := by with_unfolding_all rfl) : DE X f δ (.Compare a [.LtE, .LtE] [b, c] pos) Ψ := de_chain op_le op_le h hm
theorem dt_lele (h : DE X f δ a fun ra δ1 => DE X f δ1 b fun rb δ2 => I2 ra rb fun i j => (decide (i ≤ j) = true → DE X f δ2 c fun rc δ3 => ∃ k, rc = .v (.int k) ∧ Θ (decide (j ≤ k)) δ3) ∧ (decide (i ≤ j) = false → Θ false δ2)) (hm : lastMarks [.LtE, .LtE] [b, c] = false := by with_unfolding_all rfl) : DT X f δ (.Compare a [.LtE, .LtE] [b, c] pos) Θ := dt_chain op_le op_le h hm
theorem de_lelt (h : DE X f δ a fun ra δ1 => DE X f δ1 b fun rb δ2 => I2 ra rb fun i j => (decide (i ≤ j) = true → DE X f δ2 c fun rc δ3 => ∃ k, rc = .v (.int k) ∧ Ψ (.v (.bl (decide (j < k)))) δ3) ∧ (decide (i ≤ j) = false → Ψ (.v (.bl false)) δ2)) (hm : lastMarks [.LtE, .Lt] [b, c] = false := by with_unfolding_all rfl) : DE X f δ (.Compare a [.LtE, .Lt] [b, c] pos) Ψ := de_chain op_le op_lt h hm
theorem dt_lelt (h : DE X f δ a fun ra δ1 => DE X f δ1 b fun rb δ2 => I2 ra rb fun i j => (decide (i ≤ j) = true → DE X f δ2 c fun rc δ3 => ∃ k, rc = .v (.int k) ∧ Θ (decide (j < k)) δ3) ∧ (decide (i ≤ j) = false → Θ false δ2)) (hm : lastMarks [.LtE, .Lt] [b, c] = false := by with_unfolding_all rfl) : DT X f δ (.Compare a [.LtE, .Lt] [b, c] pos) Θ := dt_chain op_le op_lt h hm
/-! ### statements -/
inductive Take (δ : Env) : Rs → D → Env → Prop
  | v {d : D} : Take δ (.v d) d δ
  | s {i : Nat} {d : D} : δ[i]? = some (some d) → Take δ (.s i) d (δ.set i none)
theorem db_nil (k : Φ.nx δ) : DB X f δ [] Φ := DB.of pss_nil fun E σ H ⟨T, R, n, _⟩ => n δ σ H k R
theorem db_cons (h : DS X f δ st { Φ with nx := fun δ1 => DB X f δ1 sts Φ }) : DB X f δ (st :: sts) Φ :=
  DB.of (pss_cons h.h (pb_u (f := f))) fun E σ H ⟨T, R, n, r, b, c⟩ => ⟨T, R, fun δ' σ' H' k R' => ⟨δ', Φ, k, T, R', n, r, b, c⟩, r, b, c⟩
theorem db_one (h : DS X f δ st Φ) : DB X f δ [st] Φ := ⟨pss_one h.h⟩
end
end Dl

namespace Dl
open PySem L2

section
variable {K : PySem.W.Frag} {f : Fm} {H H' : Hp} {σ : St} {δ δ' δ1 : Env} {T T' : List (V × Rs)} {v w : V} {d e : D} {i j : Nat} {r : Rs} {p a : Addr} {o : HO} {F F1 F2 : Fp}
theorem Rp.perm (R : Rp K f H σ δ T) (p : T.Perm T') : Rp K f H σ δ T' := by
  obtain ⟨F, s, k⟩ := R.own
  exact ⟨R.len, R.has, ⟨F, s.perm ((p.map tc).append_right _), k⟩, fun c m => R.tmp c (p.mem_iff.mpr m), R.fr, R.tx, R.pin⟩
theorem Rp.forget (R : Rp K f H σ δ T) : Rp K f H σ (δ.set i none) T := by
  obtain ⟨F, s, k⟩ := R.own
  refine ⟨by simp [R.len], fun j e h => ?_, ⟨F, ?_, k⟩, R.tmp, R.fr, R.tx, R.pin⟩
  · by_cases q : j = i
    · subst q
      by_cases hj : j < δ.length
      · rw [List.getElem?_set_self hj] at h; cases h
      · rw [List.getElem?_eq_none (by simp; omega)] at h; cases h
    · rw [List.getElem?_set_ne (Ne.symm q)] at h
      exact R.has j e h
  · have g : Sep (OwnE K H) ((V.non, D.non) :: (T.map tc ++ cells σ δ)) F := s.free .non
    have g2 := g.put (i := (T.map tc).length + i)
    rw [List.set_append_right _ _ (Nat.le_add_right _ _), Nat.add_sub_cancel_left] at g2
    by_cases hi : i < σ.length
    · have e := cells_set (σ := σ) (δ := δ) (i := i) (x := σ[i]) (y := none)
      rw [List.set_getElem_self] at e
      rw [e]
      have e2 : cl σ[i] none = (.non, .non) := by cases σ[i] <;> rfl
      rw [e2]
      exact g2
    · have e : δ.set i none = δ := List.set_eq_of_length_le (by rw [← R.len]; omega)
      rw [e]
      exact s
theorem Take.rp (t : Take δ r d δ') (R : Rp K f H σ δ ((v, r) :: T)) : Rp K f H σ δ' ((v, .v d) :: T) := by
  cases t with
  | v => exact R
  | @s i _ h =>
    have e := R.tmp _ List.mem_cons_self i rfl
    obtain ⟨w, e2, R2⟩ := R.tail.out h
    rw [e] at e2
    cases e2
    have R3 := R2.forget (i := i)
    rw [List.set_set] at R3
    exact R3
/-- footprints without what is not tracked -/
theorem Own.trim : ∀ {n : Nat} {v : V} {d : D} {F : Fp}, Own K H n v d F → Own K H n v d fun x => F x ∧ H x ≠ none
  | 0, _, _, _, h => h
  | n + 1, v, d, F, r => by
    rcases r with r | ⟨e, h1, h2⟩ | ⟨a, vs, h1, h2, h3, F2, h4, h5, h6⟩
    · exact .inl r
    · exact .inr (.inl ⟨e, h1, Own.trim h2⟩)
    · have na : isMut d = true → H a ≠ none := by
        intro hm q
        cases d with
        | lst _ => exact nomatch (show H a = some _ from h2).symm.trans q
        | dK _ => exact nomatch (show H a = some _ from h2).symm.trans q
        | dT _ => exact nomatch (show H a = some _ from h2).symm.trans q
        | lkK _ => exact h2.elim fun o h => nomatch h.symm.trans q
        | lkT _ => exact h2.elim fun o h => nomatch h.symm.trans q
        | obj _ _ => exact h2.elim fun o h => nomatch h.symm.trans q
        | _ => cases hm
      refine .inr (.inr ⟨a, vs, h1, h2, h3, fun x => F2 x ∧ H x ≠ none, ?_, fun x q => ⟨h5 x q.1, q.2⟩, fun hm => ⟨⟨(h6 hm).1, na hm⟩, fun q => (h6 hm).2 q.1⟩⟩)
      have sm : ∀ {cs : List (V × D)} {F : Fp}, Sep (Own K H n) cs F → Sep (Own K H n) cs (fun x => F x ∧ H x ≠ none) := by
        intro cs
        induction cs with
        | nil => exact fun _ => trivial
        | cons c cs ihc =>
          intro F ⟨G1, G2, g1, g2, g3, g4, g5⟩
          exact ⟨_, _, Own.trim g1, ihc g2, fun x q z => g3 x q.1 z.1, fun x q => ⟨g4 x q.1, q.2⟩, fun x q => ⟨g5 x q.1, q.2⟩⟩
      exact sm h4
theorem Sep.trim : ∀ {cs : List (V × D)} {F : Fp}, Sep (OwnE K H) cs F → Sep (OwnE K H) cs fun x => F x ∧ H x ≠ none
  | [], _, _ => trivial
  | (_, _) :: _, _, ⟨_, _, ⟨n, g1⟩, g2, g3, g4, g5⟩ => ⟨_, _, ⟨n, g1.trim⟩, Sep.trim g2, fun x q z => g3 x q.1 z.1, fun x q => ⟨g4 x q.1, q.2⟩, fun x q => ⟨g5 x q.1, q.2⟩⟩
theorem Rp.free0 (R : Rp K f H σ δ T) {x : Addr} (h : H x = none) : f.F0 x ∨ f.H0 x = none := by
  by_cases q : f.F0 x
  · exact .inl q
  · refine .inr ?_
    cases z : f.H0 x with
    | none => rfl
    | some u =>
      have := R.fr x u z q
      rw [h] at this
      cases this

/-! ### arguments that stand in slots: taken out, put back -/
def rsvs (δ : Env) : List Rs → Option (List D)
  | [] => some []
  | r :: rs => match rsv δ r, rsvs δ rs with
    | some d, some ds => some (d :: ds)
    | _, _ => none
def slots : List Rs → List Nat
  | [] => []
  | .v _ :: rs => slots rs
  | .s i :: rs => i :: slots rs
def backs : List Rs → List D → Env → Env
  | .v _ :: rs, _ :: ds, δ => backs rs ds δ
  | .s i :: rs, d :: ds, δ => backs rs ds (δ.set i (some d))
  | _, _, δ => δ
def holes : List Rs → List V → Env → Env
  | .v _ :: rs, _ :: vs, δ => holes rs vs δ
  | .s i :: rs, v :: vs, δ => holes rs vs (δ.set i (some (.opq v)))
  | _, _, δ => δ
theorem rsvs_set {i : Nat} {y : Option D} : ∀ {rs : List Rs} {ds : List D}, rsvs δ rs = some ds → i ∉ slots rs → rsvs (δ.set i y) rs = some ds
  | [], _, h, _ => h
  | r :: rs, ds, h, hn => by
    unfold rsvs at h ⊢
    cases e1 : rsv δ r with
    | none => rw [e1] at h; cases h
    | some d =>
      cases e2 : rsvs δ rs with
      | none => rw [e1, e2] at h; cases h
      | some ds' =>
        rw [e1, e2] at h
        have hn2 : i ∉ slots rs := by
          cases r with
          | v _ => exact hn
          | s j => exact fun q => hn (List.mem_cons_of_mem _ q)
        rw [rsvs_set e2 hn2]
        have e3 : rsv (δ.set i y) r = some d := by
          cases r with
          | v _ => exact e1
          | s j =>
            have : j ≠ i := fun q => hn (by rw [q]; exact List.mem_cons_self)
            show (δ.set i y)[j]?.join = some d
            rw [List.getElem?_set_ne (Ne.symm this)]
            exact e1
        rw [e3]
        exact h
theorem rsvs_len : ∀ {rs : List Rs} {ds : List D}, rsvs δ rs = some ds → rs.length = ds.length
  | [], _, h => by cases h; rfl
  | r :: rs, ds, h => by
    unfold rsvs at h
    cases e1 : rsv δ r with
    | none => rw [e1] at h; cases h
    | some d =>
      cases e2 : rsvs δ rs with
      | none => rw [e1, e2] at h; cases h
      | some ds' =>
        rw [e1, e2] at h
        cases h
        simp [rsvs_len e2]
theorem Rp.outs : ∀ {rs : List Rs} {vs : List V} {ds : List D} {δ : Env} {T : List (V × Rs)}, Rp K f H σ δ (vs.zip rs ++ T) → vs.length = rs.length → rsvs δ rs = some ds → (slots rs).Nodup →
    Rp K f H σ (holes rs vs δ) (vs.zip (ds.map Rs.v) ++ T)
  | [], [], ds, δ, T, R, _, h, _ => by cases h; exact R
  | r :: rs, v :: vs, ds, δ, T, R, hl, h, hn => by
    unfold rsvs at h
    cases e1 : rsv δ r with
    | none => rw [e1] at h; cases h
    | some d =>
      cases e2 : rsvs δ rs with
      | none => rw [e1, e2] at h; cases h
      | some ds' =>
        rw [e1, e2] at h
        cases h
        have R0 : Rp K f H σ δ ((v, r) :: (vs.zip rs ++ T)) := R
        have hl' : vs.length = rs.length := by simpa using hl
        have fin : ∀ δ2, Rp K f H σ δ2 (vs.zip (ds'.map Rs.v) ++ (v, Rs.v d) :: T) → Rp K f H σ δ2 ((v :: vs).zip ((d :: ds').map Rs.v) ++ T) := fun δ2 R => R.perm List.perm_middle
        cases r with
        | v x =>
          cases e1
          have R1 : Rp K f H σ δ (vs.zip rs ++ (v, Rs.v d) :: T) := R0.perm List.perm_middle.symm
          exact fin _ (Rp.outs R1 hl' e2 hn)
        | s j =>
          have hn' : j ∉ slots rs ∧ (slots rs).Nodup := List.nodup_cons.mp hn
          have ev := R0.tmp _ List.mem_cons_self j rfl
          obtain ⟨w, ew, R1⟩ := R0.tail.out (get_join e1)
          rw [ev] at ew
          cases ew
          have R2 : Rp K f H σ (δ.set j (some (.opq v))) (vs.zip rs ++ (v, Rs.v d) :: T) := R1.perm List.perm_middle.symm
          exact fin _ (Rp.outs R2 hl' (rsvs_set e2 hn'.1) hn'.2)
  | [], _ :: _, _, _, _, _, hl, _, _ => nomatch hl
  | _ :: _, [], _, _, _, _, hl, _, _ => nomatch hl
theorem Rp.ins : ∀ {rs : List Rs} {vs : List V} {ds : List D} {δ : Env} {T : List (V × Rs)}, Rp K f H σ δ (vs.zip (ds.map Rs.v) ++ T) → vs.length = rs.length → ds.length = rs.length → (∀ v j, (v, Rs.s j) ∈ vs.zip rs → σ[j]? = some (some v)) →
    Rp K f H σ (backs rs ds δ) T
  | [], [], [], δ, T, R, _, _, _ => R
  | r :: rs, v :: vs, d :: ds, δ, T, R, hl, hd, ht => by
    have R0 : Rp K f H σ δ ((v, .v d) :: (vs.zip (ds.map Rs.v) ++ T)) := R
    have hl' : vs.length = rs.length := by simpa using hl
    have hd' : ds.length = rs.length := by simpa using hd
    have ht' : ∀ v j, (v, Rs.s j) ∈ vs.zip rs → σ[j]? = some (some v) := fun v j m => ht v j (List.mem_cons_of_mem _ m)
    cases r with
    | v x =>
      show Rp K f H σ (backs rs ds δ) T
      exact Rp.ins R0.tail hl' hd' ht'
    | s j =>
      show Rp K f H σ (backs rs ds (δ.set j (some d))) T
      exact Rp.ins (R0.back (ht v j List.mem_cons_self)) hl' hd' ht'
  | [], _ :: _, _, _, _, _, hl, _, _ => nomatch hl
  | _ :: _, [], _, _, _, _, hl, _, _ => nomatch hl
  | [], [], _ :: _, _, _, _, _, hd, _ => nomatch hd
  | _ :: _, _ :: _, [], _, _, _, _, hd, _ => nomatch hd
theorem backs_set_in {i : Nat} {y : Option D} : ∀ {rs : List Rs} {ds : List D} {δ : Env}, i ∈ slots rs → ds.length = rs.length → backs rs ds (δ.set i y) = backs rs ds δ
  | [], _, _, h, _ => by cases h
  | .v _ :: rs, d :: ds, δ, h, hl => backs_set_in (rs := rs) (ds := ds) h (by simpa using hl)
  | .s j :: rs, d :: ds, δ, h, hl => by
    show backs rs ds ((δ.set i y).set j (some d)) = backs rs ds (δ.set j (some d))
    by_cases q : i = j
    · subst q
      rw [List.set_set]
    · have m : i ∈ slots rs := by
        rcases List.mem_cons.mp h with m | m
        · exact absurd m q
        · exact m
      rw [List.set_comm _ _ q]
      exact backs_set_in m (by simpa using hl)
  | .v _ :: rs, [], _, _, hl => nomatch hl
  | .s _ :: rs, [], _, _, hl => nomatch hl
theorem backs_holes : ∀ {rs : List Rs} {vs : List V} {ds : List D} {δ : Env} , vs.length = rs.length → ds.length = rs.length → backs rs ds (holes rs vs δ) = backs rs ds δ := by
  have main : ∀ {qs rs : List Rs} {vs : List V} {ds : List D} {δ : Env}, vs.length = rs.length → ds.length = qs.length → (∀ i ∈ slots rs, i ∈ slots qs) → backs qs ds (holes rs vs δ) = backs qs ds δ := by
    intro qs rs
    induction rs with
    | nil => intro vs ds δ h _ _; cases vs <;> rfl
    | cons r rs ih =>
      intro vs ds δ h hd hi
      cases vs with
      | nil => cases h
      | cons v vs =>
        cases r with
        | v x => exact ih (by simpa using h) hd hi
        | s j =>
          show backs qs ds (holes rs vs (δ.set j (some (.opq v)))) = _
          rw [ih (by simpa using h) hd (fun i m => hi i (List.mem_cons_of_mem _ m))]
          exact backs_set_in (hi j List.mem_cons_self) hd
  intro rs vs ds δ h1 h2
  exact main h1 h2 fun _ m => m
end

/-! ### promises of defs -/
abbrev Pre := List D → (D → List D → Prop) → Prop
/-- how the heap lies behind a call that was handed what lies in F -/
structure Post (K : PySem.W.Frag) (H : Hp) (F : Fp) (vs : List V) (ds' : List D) (v : V) (r : D) (H' : Hp) : Prop where
  len : ds'.length = vs.length
  own : ∃ F', Sep (OwnE K H') ((v, r) :: vs.zip ds') F' ∧ ∀ x, F' x → F x ∨ H x = none
  fr : ∀ a u, H a = some u → ¬ F a → H' a = some u
  tx : Tx H H'
def spD (K : PySem.W.Frag) (n : Nat) (P : Pre) : Sp := fun vs H Q _ => ∃ ds F, vs.length = n ∧ ds.length = n ∧ Sep (OwnE K H) (vs.zip ds) F ∧ ∃ Φ, P ds Φ ∧ ∀ r ds' v H', Φ r ds' → Post K H F vs ds' v r H' → Q v H'
theorem spD_len {K : PySem.W.Frag} {n : Nat} {P : Pre} : ∀ vs H Q E, spD K n P vs H Q E → vs.length = n := fun _ _ _ _ ⟨_, _, h, _⟩ => h
/-- a def of the module keeps its promise -/
structure GFn (P : Program) (w : World) (K : PySem.W.Frag) (mg : Str → Option Value) (base : Heap) (k : Nat) (x : Str) (n : Nat) (pre : Pre) : Prop where
  ex : ∃ (f : Addr) (fd : FuncData) (ps : List Str), mg x = some (.ref f) ∧ PySem.W.keepIn K (.ref f) = true ∧ Binds K fd ps [] ∧ FnOk P w K mg base CX0 k f fd ps (spD K n pre)
theorem GFn.mono {P : Program} {w : World} {K : PySem.W.Frag} {mg : Str → Option Value} {base : Heap} {j k : Nat} {x : Str} {n : Nat} {pre : Pre} (G : GFn P w K mg base j x n pre) (h : j ≤ k) : GFn P w K mg base k x n pre := by
  obtain ⟨f, fd, ps, h1, h2, h3, h4⟩ := G.ex
  exact ⟨f, fd, ps, h1, h2, h3, h4.mono h⟩

section
variable {K : PySem.W.Frag} {f : Fm} {H H' : Hp} {σ : St} {δ δ' δ1 : Env} {T T' : List (V × Rs)} {v w : V} {d e : D} {i j : Nat} {r : Rs} {p a : Addr} {o : HO} {F F1 F2 : Fp}
/-- a call by a promise -/
theorem Rp.called {rs : List Rs} {vs : List V} {ds : List D} {n : Nat} {P : Pre} {Φ : D → List D → Prop} {Q : VK} {E : XK} (R : Rp K f H σ δ (vs.zip rs ++ T)) (hl : vs.length = rs.length) (hn : rs.length = n) (h : rsvs δ rs = some ds) (nd : (slots rs).Nodup) (p : P ds Φ)
    (q : ∀ r ds' v H', Φ r ds' → Rp K f H' σ (backs rs ds' δ) ((v, .v r) :: T) → Q v H') : spD K n P vs H Q E := by
  have ht : ∀ v j, (v, Rs.s j) ∈ vs.zip rs → σ[j]? = some (some v) := fun v j m => R.tmp _ (List.mem_append_left _ m) j rfl
  have R1 := Rp.outs R hl h nd
  obtain ⟨F, s, k⟩ := R1.own
  rw [List.map_append, List.append_assoc] at s
  obtain ⟨F1, F2, s1, s2, dj, k1, k2⟩ := s.split
  have hds := rsvs_len h
  have em : ∀ (vs : List V) (ds : List D), (vs.zip (ds.map Rs.v)).map tc = vs.zip ds := by
    intro vs
    induction vs with
    | nil => intro ds; rfl
    | cons v vs ih =>
      intro ds
      cases ds with
      | nil => rfl
      | cons d ds => show (v, d) :: (vs.zip (ds.map Rs.v)).map tc = (v, d) :: vs.zip ds; rw [ih]
  rw [em] at s1
  refine ⟨ds, F1, by omega, by omega, s1, Φ, p, fun r ds' v H' hp po => q r ds' v H' hp ?_⟩
  obtain ⟨F', t1, t2⟩ := po.own
  have hl2 := po.len
  have s2' : Sep (OwnE K H') (T.map tc ++ cells σ (holes rs vs δ)) (fun x => F2 x ∧ H x ≠ none) := s2.trim.monoR fun v d G _ g r => r.frame po.tx fun x z => by
    obtain ⟨z1, z2⟩ := g x z
    cases e : H x with
    | none => exact absurd e z2
    | some u => exact po.fr x u e fun y => dj x y z1
  have fin : Rp K f H' σ (holes rs vs δ) ((v, .v r) :: (vs.zip (ds'.map Rs.v) ++ T)) := by
    refine ⟨R1.len, R1.has, ⟨fun x => F' x ∨ (F2 x ∧ H x ≠ none), ?_, fun x z => ?_⟩, fun c m j e => ?_, fun a u h1 h2 => ?_, R1.tx.trans po.tx, R1.pin⟩
    · have := Sep.append t1 s2' fun x z y => by
        rcases t2 x z with t | t
        · exact dj x t y.1
        · exact y.2 t
      show Sep (OwnE K H') ((v, r) :: ((vs.zip (ds'.map Rs.v) ++ T).map tc ++ cells σ (holes rs vs δ))) _
      rw [List.map_append, em, List.append_assoc]
      exact this
    · rcases z with z | z
      · rcases t2 x z with t | t
        · exact k x (k1 x t)
        · exact R.free0 t
      · exact k x (k2 x z.1)
    · rcases List.mem_cons.mp m with m | m
      · rw [m] at e; cases e
      · rcases List.mem_append.mp m with m | m
        · obtain ⟨v1, r1⟩ := c
          have := (List.of_mem_zip m).2
          obtain ⟨x, _, ex⟩ := List.mem_map.mp this
          cases ex
          cases e
        · exact R1.tmp c (List.mem_append_right _ m) j e
    · exact po.fr a u (R1.fr a u h1 h2) fun z => by
        rcases k a (k1 a z) with y | y
        · exact h2 y
        · rw [h1] at y; cases y
  have fin2 : Rp K f H' σ (holes rs vs δ) (vs.zip (ds'.map Rs.v) ++ (v, .v r) :: T) := fin.perm List.perm_middle.symm
  have fin3 := Rp.ins (rs := rs) fin2 hl (by omega) ht
  rw [backs_holes hl (by omega)] at fin3
  exact fin3
end

section
variable {X : Cx} {f : Fm} {δ : Env} {e a b c : Expr} {es rest : List Expr} {st : Stmt} {sts : List Stmt} {pos p2 : Pos} {Ψ : Rs → Env → Prop} {Θ : Bool → Env → Prop} {Λ : List Rs → Env → Prop} {Φ : Ph}
variable {N : List Str} {sc : Scope}
/-! ### argument lists -/
theorem da_nil (k : Λ [] δ) : DA X f δ [] Λ := DA.of pa_nil fun σ H Q ⟨T, R, q⟩ => q [] δ [] H k rfl R
theorem da_cons (h : DE X f δ e fun r δ1 => DA X f δ1 es fun rs δ2 => Λ (r :: rs) δ2) (hs : starEach (e :: es) X.env = (false, eval e X.env) :: starEach es X.env := by rfl) : DA X f δ (e :: es) Λ :=
  DA.of (pa_cons h.h (pa_u (f := f)) hs) fun σ H Q ⟨T, R, q⟩ => ⟨T, R, fun r δ1 v H1 k R1 => ⟨δ1, _, k, (v, r) :: T, R1, fun rs δ2 vs H2 k2 hl R2 => q (r :: rs) δ2 (v :: vs) H2 k2 (by simp [hl]) (R2.perm List.perm_middle)⟩⟩
theorem DA.mono {Λ' : List Rs → Env → Prop} (h : DA X f δ es Λ) (i : ∀ r δ', Λ r δ' → Λ' r δ') : DA X f δ es Λ' := DA.of h.h fun σ H Q ⟨T, R, q⟩ => ⟨T, R, fun r δ' v H' p => q r δ' v H' (i r δ' p)⟩
/-- f(e, ..) of the module -/
theorem de_call {Pr : Program} {w : World} {K : PySem.W.Frag} {mg : Str → Option Value} {base : Heap} {k n : Nat} {x : Str} {p : Pos} {P : Pre} (B : Bd X N sc) (J : Jn X Pr w K mg base) (G : GFn Pr w K mg base k x n P) (hr : Room k X.A) (hg : Gls sc x)
    (h : DA X f δ (e :: es) fun rs δ1 => ∃ ds, rsvs δ1 rs = some ds ∧ rs.length = n ∧ (slots rs).Nodup ∧ P ds fun r ds' => Ψ (.v r) (backs rs ds' δ1))
    (hdb : (x == ("__debug__" : Str)) = false := by decide) (he : starEach (e :: es) X.env = (false, eval e X.env) :: starEach es X.env := by rfl) (hpl : (backTo pos (starEach es X.env)).any (·.1) = false := by rfl) : DE X f δ (.Call (.Name x p) (e :: es) [] pos) Ψ := by
  obtain ⟨rfl, rfl, rfl, rfl, rfl⟩ := J
  obtain ⟨fa, fd, ps, hm, hk, hb, F⟩ := G.ex
  refine DE.of (pe_call F hr (B.glob hg) hm hk hb .nil pass0 h.h hdb he hpl) fun σ H Q ⟨T, R, q⟩ => ⟨T, R, fun rs δ1 vs H1 ⟨ds, e1, e2, e3, e4⟩ hl R1 => ?_⟩
  show spD X.K n P (vs ++ []) H1 Q E0
  rw [List.append_nil]
  exact R1.called hl e2 e1 e3 e4 fun r ds' v H' k R2 => q _ _ _ _ k R2
/-! ### statements -/
theorem DS.mono {Φ' : Ph} (h : DS X f δ st Φ) (i1 : ∀ δ', Φ.nx δ' → Φ'.nx δ') (i2 : ∀ d δ', Φ.rt d δ' → Φ'.rt d δ') (i3 : ∀ δ', Φ.bk δ' → Φ'.bk δ') (i4 : ∀ δ', Φ.ct δ' → Φ'.ct δ') : DS X f δ st Φ' :=
  DS.of h.h fun E σ H ⟨T, R, n, r, b, c⟩ => ⟨T, R, fun δ' σ' H' k => n δ' σ' H' (i1 _ k), fun d δ' v σ' H' k => r d δ' v σ' H' (i2 _ _ k), fun δ' σ' H' k => b δ' σ' H' (i3 _ k), fun δ' σ' H' k => c δ' σ' H' (i4 _ k)⟩
/-- a word between a statement and the rest -/
theorem db_cut {Mid : Env → Prop} (h : DS X f δ st { Φ with nx := Mid }) (k : ∀ δ1, Mid δ1 → DB X f δ1 sts Φ) : DB X f δ (st :: sts) Φ := db_cons (h.mono k (fun _ _ q => q) (fun _ q => q) fun _ q => q)
theorem tv_ns {T : List (V × D)} : ∀ c ∈ tv T, ∀ j, c.2 ≠ .s j := fun c m j e => by
  obtain ⟨x, _, q⟩ := List.mem_map.mp m
  rw [← q] at e
  cases e
theorem ne_all {l : List Nat} {i : Nat} (h : l.all (· != i) = true) : ∀ p ∈ l, p ≠ i := fun p m => by
  have := List.all_eq_true.mp h p m
  simpa using this
/-- slot i may be stored -/
def Unp (f : Fm) (i : Nat) : Prop := ∀ p ∈ f.pn, p ≠ i
theorem unp_of {l : List Nat} {i : Nat} (h : f.pn = l) (a : l.all (· != i) = true) : Unp f i := by
  unfold Unp
  rw [h]
  exact ne_all a
theorem ds_set {i : Nat} {x : Str} {pos' : Pos} (B : Bd X N sc) (hi : Sl N i x) (hx : Sto X sc x) (hu : Unp f i) (h : DE X f δ e fun r δ1 => ∃ d δ2, Take δ1 r d δ2 ∧ Φ.nx (δ2.set i (some d)))
    (hs : swapsWith e (some (.Name x pos')) pos.line X.env = pure false := by rfl) : DS X f δ (.Assign [.Name x pos'] e pos) Φ :=
  DS.of (ps_set B.ndX (B.ix hi) (B.loc hx) h.h hs (B.hf hx)) fun E σ H ⟨T, R, n, r, b, c⟩ => ⟨tv T, R, fun r δ1 v H1 ⟨d, δ2, t, k⟩ R1 => n _ _ _ k ((t.rp R1).store hu tv_ns)⟩
theorem ds_ret (h : DE X f δ e fun r δ1 => ∃ d δ2, Take δ1 r d δ2 ∧ Φ.rt d δ2) : DS X f δ (.Return (some e) pos) Φ :=
  DS.of (ps_ret h.h) fun E σ H ⟨T, R, n, r, b, c⟩ => ⟨tv T, R, fun r' δ1 v H1 ⟨d, δ2, t, k⟩ R1 => r d δ2 v σ H1 k (t.rp R1)⟩
theorem ds_retN (k : Φ.rt .non δ) : DS X f δ (.Return none pos) Φ :=
  DS.of ps_retN fun E σ H ⟨T, R, n, r, b, c⟩ => r .non δ .non σ H k (R.pushL rfl)
theorem ds_expr (h : DE X f δ e fun _ δ1 => Φ.nx δ1) (hs : swapsWith e none pos.line X.env = pure false := by rfl) : DS X f δ (.Expr e pos) Φ :=
  DS.of (ps_expr h.h hs) fun E σ H ⟨T, R, n, r, b, c⟩ => ⟨tv T, R, fun r' δ1 v H1 k R1 => n _ _ _ k R1.tail⟩
theorem ds_if {s1 s2 : List Stmt} (h : DT X f δ c fun t δ1 => (t = true → DB X f δ1 s1 Φ) ∧ (t = false → DB X f δ1 s2 Φ)) : DS X f δ (.If c s1 s2 pos) Φ :=
  DS.of (ps_if h.h (pb_u (f := f)) (pb_u (f := f))) fun E σ H ⟨T, R, n, r, b, c⟩ => ⟨tv T, R, fun t δ1 H1 k R1 => by
    cases t with
    | true => exact ⟨δ1, Φ, k.1 rfl, T, R1, n, r, b, c⟩
    | false => exact ⟨δ1, Φ, k.2 rfl, T, R1, n, r, b, c⟩⟩
theorem ds_pass (k : Φ.nx δ) : DS X f δ (.Pass pos) Φ := DS.of ps_pass fun E σ H ⟨T, R, n, r, b, c⟩ => n δ σ H k R
theorem ds_never (h : False) : DS X f δ st Φ := h.elim
/-- xs[i] = e -/
inductive SetS (δ : Env) : Rs → Rs → D → (Env → Prop) → Prop
  | lst {j : Nat} {xs : List D} {i : Int} {m : Nat} {d : D} {P : Env → Prop} : δ[j]? = some (some (.lst xs)) → ixN xs.length i = some m → P (δ.set j (some (.lst (xs.set m d)))) → SetS δ (.s j) (.v (.int i)) d P
theorem zip_set {vs : List V} {ds : List D} {m : Nat} {v : V} {d : D} : (vs.set m v).zip (ds.set m d) = (vs.zip ds).set m (v, d) := by
  induction vs generalizing ds m with
  | nil => simp
  | cons a vs ih =>
    cases ds with
    | nil => simp
    | cons b ds =>
      cases m with
      | zero => rfl
      | succ m => simp only [List.set_cons_succ, List.zip_cons_cons]; rw [ih]
theorem ds_setix {o i : Expr} {p3 : Pos} (h : DE X f δ e fun r δ1 => ∃ d δ2, Take δ1 r d δ2 ∧ DE X f δ2 o fun ro δ3 => DE X f δ3 i fun ri δ4 => SetS δ4 ro ri d Φ.nx)
    (hs : swapsWithSole [.Subscript o i p3] e pos.line X.env = pure false := by rfl) (hw : swappedStores [.Subscript o i p3] e X.env = pure none := by rfl) (h1 : (assignEach [.Subscript o i p3] X.env).map (·.2) = [assign (.Subscript o i p3) X.env] := by rfl)
    (ha : ∀ v, assign (.Subscript o i p3) X.env v = (do let ov ← holding [v] (eval o X.env); let iv ← holding [v, ov] (eval i X.env); standAt p3; holding [v, ov, iv] (setItem ov iv v); release [v, ov, iv] []) := by intro _; rfl) : DS X f δ (.Assign [.Subscript o i p3] e pos) Φ :=
  DS.of (ps_asg h.h (pg_sub (pe_u (f := f)) (pe_u (f := f)) set_list ha) hs hw h1) fun E σ H ⟨T, R, n, r, b, c⟩ => ⟨tv T, R, fun r' δ1 v H1 ⟨d, δ2, t, k⟩ R1 =>
    ⟨δ2, _, k, _, t.rp R1, fun ro δ3 x H3 k3 R3 => ⟨δ3, _, k3, _, R3, fun ri δ4 y H4 k4 R4 => by
      cases k4 with
      | @lst j xs i m d P hj hx k5 =>
        cases R4.vint (v := y) (i := i) (by simp)
        have ex := R4.tmp (x, Rs.s j) (by simp) j rfl
        obtain ⟨w, ew, R5⟩ := R4.tail2.out hj
        rw [ex] at ew
        cases ew
        obtain ⟨F, o⟩ := R5.res (v := x) (r := .v (.lst xs)) (by simp) rfl
        obtain ⟨l, vs, rfl, e1, l1, _⟩ := own_lst o
        obtain ⟨vs', n1, l2, ch⟩ := Rp.change (cs := [(v, Rs.v d)]) (T := tv T) R5 rfl
        have ev : vs' = vs := by
          have := (show H4 l = some (.lst vs') from n1).symm.trans e1
          cases this; rfl
        subst ev
        refine ⟨l, vs', i, m, rfl, rfl, e1, by rw [l1]; exact hx, ?_⟩
        have R6 := ch (.lst (vs'.set m v)) (.lst (xs.set m d)) (vs'.set m v) (show upd H4 l _ l = _ from upd_same) rfl (by simp [kids, l1]) (fun F s => ?_) (fun o u q => by rw [e1] at q; cases q)
        · have R7 := R6.back (i := j) ex
          rw [List.set_set] at R7
          exact n _ _ _ k5 R7
        · have s' : Sep (OwnE X.K (upd H4 l (.lst (vs'.set m v)))) ((v, d) :: vs'.zip xs) F := s.perm (by
            show ((vs'.zip xs) ++ [(v, d)]).Perm ((v, d) :: vs'.zip xs)
            exact (List.perm_append_comm (l₁ := vs'.zip xs) (l₂ := [(v, d)])))
          show Sep _ ((vs'.set m v).zip (xs.set m d)) F
          rw [zip_set]
          exact s'.put⟩⟩⟩
end
end Dl

namespace Dl
open PySem L2

/-! ### a def's body -/
def startD (N : List Str) (ds : List D) : Env := ds.map some ++ List.replicate (N.length - ds.length) none
def pnOf (pm : List Bool) : List Nat := (List.range pm.length).filter fun i => pm.getD i false
/-- what a body leaves of its arguments: the pinned ones as they stand, the others as they were handed -/
def fin : List Bool → List D → Env → Option (List D)
  | [], [], _ => some []
  | true :: pm, _ :: ds, some d :: δ => (fin pm ds δ).map (d :: ·)
  | false :: pm, d :: ds, _ :: δ => (fin pm ds δ).map (d :: ·)
  | _, _, _ => none
theorem mem_pnOf {pm : List Bool} {i : Nat} : i ∈ pnOf pm ↔ pm[i]? = some true := by
  unfold pnOf
  rw [List.mem_filter, List.mem_range, List.getD_eq_getElem?_getD]
  constructor
  · rintro ⟨h1, h2⟩
    rw [List.getElem?_eq_getElem h1] at h2 ⊢
    simpa using h2
  · intro h
    obtain ⟨h1, h2⟩ := List.getElem?_eq_some_iff.mp h
    exact ⟨h1, by rw [h]; rfl⟩
section
variable {K : PySem.W.Frag} {f : Fm} {H H' : Hp} {σ : St} {δ δ' δ1 : Env} {T T' : List (V × Rs)} {v w : V} {d e : D} {i j : Nat} {r : Rs} {p a : Addr} {o : HO} {F F1 F2 : Fp}
theorem cells_start : ∀ {N : List Str} {vs : List V} {ds : List D}, vs.length = ds.length → ∃ n, cells (L2.start N vs) (startD N ds) = vs.zip ds ++ List.replicate n (V.non, D.non) := by
  intro N vs ds h
  unfold L2.start startD cells
  rw [← h]
  refine ⟨N.length - vs.length, ?_⟩
  generalize N.length - vs.length = n
  induction vs generalizing ds with
  | nil =>
    cases ds with
    | nil =>
      induction n with
      | zero => rfl
      | succ n ih =>
        show (cl none none) :: List.zipWith cl (List.replicate n none) (List.replicate n none) = (V.non, D.non) :: List.replicate n (V.non, D.non)
        congr 1
    | cons d ds => cases h
  | cons v vs ih =>
    cases ds with
    | nil => cases h
    | cons d ds =>
      show (v, d) :: List.zipWith cl (vs.map some ++ List.replicate n none) (ds.map some ++ List.replicate n none) = (v, d) :: (vs.zip ds ++ List.replicate n (V.non, D.non))
      rw [ih (by simpa using h)]
theorem Sep.cat0 {R : V → D → Fp → Prop} {cs : List (V × D)} {n : Nat} {c : V × D} (h : Sep R cs F) (h0 : R c.1 c.2 fun _ => False) : Sep R (cs ++ List.replicate n c) F := by
  have := Sep.append h (Sep.freeAll (cs := List.replicate n c) fun c' m => by rw [(List.mem_replicate.mp m).2]; exact h0) fun _ _ q => q
  exact this.monoF fun x q => q.elim (fun q => q) (fun q => q.elim)
/-- at the entry -/
theorem Rp.start {N : List Str} {vs : List V} {ds : List D} {pm : List Bool} (hl : vs.length = ds.length) (hN : ds.length ≤ N.length) (hp : pm.length = ds.length) (s : Sep (OwnE K H) (vs.zip ds) F) :
    Rp K ⟨H, F, pnOf pm, fun i => vs.getD i .non⟩ H (L2.start N vs) (startD N ds) [] := by
  obtain ⟨n, e⟩ := cells_start (N := N) hl
  refine ⟨by unfold L2.start startD; simp [hl], fun i d h => ?_, ⟨F, ?_, fun x q => .inl q⟩, fun c m => (nomatch m), fun a u h _ => h, Tx.refl H, fun i m => ?_⟩
  · unfold startD at h
    unfold L2.start
    by_cases hi : i < ds.length
    · refine ⟨vs[i]'(by omega), ?_⟩
      rw [List.getElem?_append_left (by simp; omega), List.getElem?_map, List.getElem?_eq_getElem (by omega)]
      rfl
    · rw [List.getElem?_append_right (by simp; omega)] at h
      rw [List.getElem?_replicate] at h
      split at h <;> simp at h
  · show Sep (OwnE K H) (cells _ _) F
    rw [e]
    exact Sep.cat0 s OwnE.non
  · have h := mem_pnOf.mp m
    have hi := (List.getElem?_eq_some_iff.mp h).1
    unfold L2.start
    show _ = some (some (vs.getD i .non))
    rw [List.getElem?_append_left (by simp; omega), List.getElem?_map, List.getElem?_eq_getElem (by omega), List.getD_eq_getElem?_getD, List.getElem?_eq_getElem (by omega)]
    rfl
def ImmAt (pm : List Bool) (ds : List D) : Prop := ∀ (i : Nat) (d : D), pm[i]? = some false → ds[i]? = some d → Imm d
/-- the arguments at the end -/
theorem fin_sep {G : Fp} (ti : ∀ d, Imm d → ∀ v F, OwnE K H v d F → OwnE K H' v d fun _ => False) : ∀ {pm : List Bool} {vs : List V} {ds : List D} {σ : St} {δ : Env} {ds' : List D} {F : Fp}, fin pm ds δ = some ds' → vs.length = ds.length → ImmAt pm ds → (∀ i, pm[i]? = some true → σ[i]? = some (some (vs.getD i .non))) →
    σ.length = δ.length → Sep (OwnE K H) (vs.zip ds) G → Sep (OwnE K H') (cells σ δ) F → ds'.length = vs.length ∧ Sep (OwnE K H') (vs.zip ds') F := by
  intro pm
  induction pm with
  | nil =>
    intro vs ds σ δ ds' F h hl im pn hσ s0 s
    cases ds with
    | nil =>
      have e : ds' = [] := by unfold fin at h; exact (Option.some.inj h).symm
      have e2 : vs = [] := List.length_eq_zero_iff.mp hl
      subst e e2
      exact ⟨rfl, trivial⟩
    | cons d ds => unfold fin at h; cases h
  | cons b pm ih =>
    intro vs ds σ δ ds' F h hl im pn hσ s0 s
    cases ds with
    | nil => cases b <;> (unfold fin at h; cases h)
    | cons d ds =>
      cases vs with
      | nil => cases hl
      | cons v vs =>
        cases δ with
        | nil => cases b <;> (unfold fin at h; cases h)
        | cons y δ =>
          cases σ with
          | nil => cases hσ
          | cons x σ =>
            have im' : ImmAt pm ds := fun i d a b => im (i + 1) d a b
            have hl' : vs.length = ds.length := by simpa using hl
            have hσ' : σ.length = δ.length := by simpa using hσ
            have pn' : ∀ i, pm[i]? = some true → σ[i]? = some (some (vs.getD i .non)) := fun i a => pn (i + 1) a
            have s' : Sep (OwnE K H') (cl x y :: cells σ δ) F := s
            cases b with
            | true =>
              cases y with
              | none => unfold fin at h; cases h
              | some y =>
                have e1 : x = some v := by simpa using pn 0 rfl
                subst e1
                unfold fin at h
                cases q : fin pm ds δ with
                | none => rw [q] at h; cases h
                | some ds2 =>
                  rw [q] at h
                  cases h
                  have g : Sep (OwnE K H') ((v, y) :: vs.zip ds2) F := s'.under fun G' g => (ih q hl' im' pn' hσ' s0.tail g).2
                  exact ⟨by have := (ih q hl' im' pn' hσ' s0.tail s'.tail).1; simp [this], g⟩
            | false =>
              unfold fin at h
              cases q : fin pm ds δ with
              | none => rw [q] at h; cases h
              | some ds2 =>
                rw [q] at h
                cases h
                obtain ⟨l2, g⟩ := ih q hl' im' pn' hσ' s0.tail s'.tail
                obtain ⟨G1, g1, _⟩ := s0.get (i := 0) (v := v) (d := d) rfl
                have g3 : Sep (OwnE K H') ((v, d) :: vs.zip ds2) F := Sep.free g (ti d (im 0 d rfl rfl) v _ g1)
                exact ⟨by simp [l2], g3⟩
theorem imm_tx (t : Tx H H') {d : D} (i : Imm d) {v : V} {F : Fp} (o : OwnE K H v d F) : OwnE K H' v d fun _ => False := (i K H v F o).frame t fun _ q => q.elim
end
section
variable {P : Program} {w : World} {K : PySem.W.Frag} {mg : Str → Option Value} {base : Heap}
/-- THE RULE for a def: its body at the data level. pm: which arguments are handed to be changed (or are lists read) -/
theorem okD {x qual : Str} {st : Stmt} {f : Addr} {fd : FuncData} {N ps : List Str} {k : Nat} {pre : Pre} (pm : List Bool) (F : L2.Fun K x qual st f fd) (S : FnScope N ps (defScope st)) (hpm : pm.length = ps.length) (hps : ps.length ≤ N.length)
    (him : ∀ ds Φ, ds.length = ps.length → pre ds Φ → ImmAt pm ds)
    (hbody : ∀ (X : Cx) (f : Fm) (ds : List D) (Φ : D → List D → Prop), Bd X N (defScope st) → (∀ x, X.fn x = true) → Jn X P w K mg base → Room k X.A → f.pn = pnOf pm → ds.length = ps.length → pre ds Φ →
      DB X f (startD N ds) (defBody st) { nx := fun δ => ∃ ds', fin pm ds δ = some ds' ∧ Φ .non ds', rt := fun r δ => ∃ ds', fin pm ds δ = some ds' ∧ Φ r ds' }) : FnOk P w K mg base CX0 (k + 1) f fd ps (spD K ps.length pre) := by
  refine F.ok S spD_len fun cdv A outer s H vs Q E hr h => ?_
  obtain ⟨ds, F0, hl, hd, sp, Φ, p, q⟩ := h
  refine ⟨_, (hbody _ ⟨H, F0, pnOf pm, fun i => vs.getD i .non⟩ ds Φ ⟨rfl, rfl, rfl, S.nd, PassesOwn.never⟩ (fun _ => rfl) ⟨rfl, rfl, rfl, rfl, rfl⟩ hr rfl hd p).h, [], Rp.start (by omega) (by omega) (by omega) sp, fun δ' σ' H' ⟨ds', e, k⟩ R => ?_, fun r δ' v σ' H' ⟨ds', e, k⟩ R => ?_, fun _ _ _ z => z.elim, fun _ _ _ z => z.elim⟩
  · have R1 := R.pushL (d := .non) (v := .non) rfl
    obtain ⟨F', s, kk⟩ := R1.own
    have s2 : Sep (OwnE K H') ((V.non, D.non) :: cells σ' δ') F' := s
    refine q .non ds' .non H' k ⟨?_, ⟨F', ?_, kk⟩, R.fr, R.tx⟩
    · exact (fin_sep (fun d i v F o => imm_tx R.tx i o) e (by omega) (him ds Φ hd p) (fun i a => R.pin i (mem_pnOf.mpr a)) R.len sp s2.tail).1
    · exact s2.under fun G g => (fin_sep (fun d i v F o => imm_tx R.tx i o) e (by omega) (him ds Φ hd p) (fun i a => R.pin i (mem_pnOf.mpr a)) R.len sp g).2
  · obtain ⟨F', s, kk⟩ := R.own
    have s2 : Sep (OwnE K H') ((v, r) :: cells σ' δ') F' := s
    refine q r ds' v H' k ⟨?_, ⟨F', ?_, kk⟩, R.fr, R.tx⟩
    · exact (fin_sep (fun d i v F o => imm_tx R.tx i o) e (by omega) (him ds Φ hd p) (fun i a => R.pin i (mem_pnOf.mpr a)) R.len sp s2.tail).1
    · exact s2.under fun G g => (fin_sep (fun d i v F o => imm_tx R.tx i o) e (by omega) (him ds Φ hd p) (fun i a => R.pin i (mem_pnOf.mpr a)) R.len sp g).2
end
end Dl

namespace Dl
open PySem L2
section
variable {X : Cx} {f : Fm} {δ : Env} {e a b c : Expr} {es rest : List Expr} {st : Stmt} {sts : List Stmt} {pos p2 : Pos} {Ψ : Rs → Env → Prop} {Θ : Bool → Env → Prop} {Λ : List Rs → Env → Prop} {Φ : Ph}
variable {N : List Str} {sc : Scope} {Pr : Program} {w : World} {K : PySem.W.Frag} {mg : Str → Option Value} {base : Heap}
/-! ### built-in functions by their values -/
def CallOk (K : PySem.W.Frag) (f : Fm) (δ : Env) (r : List V → Hp → VK → Prop) (rs : List Rs) (P : D → Prop) : Prop :=
  ∀ (H : Hp) (σ : St) (T : List (V × Rs)) (vs : List V) (Q : VK), vs.length = rs.length → Rp K f H σ δ (vs.zip rs ++ T) → (∀ d v H', P d → Rp K f H' σ δ ((v, .v d) :: T) → Q v H') → r vs H Q
theorem de_bltn {id : String} {r : List V → Hp → VK → Prop} {x : Str} {p : Pos} (hc : CallR X (.builtin id) r) (B : Bd X N sc) (J : Jn X Pr w K mg base) (hg : Gls sc x) (hm : mg x = none) (hv : bootBuiltins x = some (.builtin id))
    (h : DA X f δ (e :: es) fun rs δ1 => CallOk X.K f δ1 r rs fun d => Ψ (.v d) δ1) (hn : x ≠ "__name__" := by decide) (hdb : (x == ("__debug__" : Str)) = false := by decide)
    (he : starEach (e :: es) X.env = (false, eval e X.env) :: starEach es X.env := by rfl) (hpl : (backTo pos (starEach es X.env)).any (·.1) = false := by rfl) : DE X f δ (.Call (.Name x p) (e :: es) [] pos) Ψ :=
  DE.of (pe_callB hc (B.glob hg) (by rw [J.mg]; exact hm) hv h.h hn hdb he hpl) fun σ H Q ⟨T, R, q⟩ => ⟨T, R, fun rs δ1 vs H1 k hl R1 => k H1 σ T vs Q hl R1 fun d v H' p R' => q _ _ _ _ p R'⟩
theorem de_bty {id : String} {r : List V → Hp → VK → Prop} {x : Str} {p : Pos} (hc : CallR X (.type id) r) (B : Bd X N sc) (J : Jn X Pr w K mg base) (hg : Gls sc x) (hm : mg x = none) (hv : bootBuiltins x = some (.type id))
    (h : DA X f δ (e :: es) fun rs δ1 => CallOk X.K f δ1 r rs fun d => Ψ (.v d) δ1) (hn : x ≠ "__name__" := by decide) (hdb : (x == ("__debug__" : Str)) = false := by decide)
    (he : starEach (e :: es) X.env = (false, eval e X.env) :: starEach es X.env := by rfl) (hpl : (backTo pos (starEach es X.env)).any (·.1) = false := by rfl) : DE X f δ (.Call (.Name x p) (e :: es) [] pos) Ψ :=
  DE.of (pe_callTy hc (B.glob hg) (by rw [J.mg]; exact hm) hv h.h hn hdb he hpl) fun σ H Q ⟨T, R, q⟩ => ⟨T, R, fun rs δ1 vs H1 k hl R1 => k H1 σ T vs Q hl R1 fun d v H' p R' => q _ _ _ _ p R'⟩
theorem one_of {rs : List Rs} {vs : List V} {r : Rs} {T : List (V × Rs)} (h : rs = [r]) (hl : vs.length = rs.length) : ∃ v, vs = [v] ∧ vs.zip rs ++ T = (v, r) :: T := by
  subst h
  cases vs with
  | nil => cases hl
  | cons v vs =>
    cases vs with
    | nil => exact ⟨v, rfl, rfl⟩
    | cons u vs => cases hl
theorem two_of {rs : List Rs} {vs : List V} {r s : Rs} {T : List (V × Rs)} (h : rs = [r, s]) (hl : vs.length = rs.length) : ∃ v w, vs = [v, w] ∧ vs.zip rs ++ T = (v, r) :: (w, s) :: T := by
  subst h
  cases vs with
  | nil => cases hl
  | cons v vs =>
    cases vs with
    | nil => cases hl
    | cons u vs =>
      cases vs with
      | nil => exact ⟨v, u, rfl, rfl⟩
      | cons _ _ => cases hl
/-- a call of one result -/
theorem callOk1 {r : List V → Hp → VK → Prop} {ra : Rs} {P : D → Prop} (h : ∀ (H : Hp) (σ : St) (T : List (V × Rs)) (v : V) (Q : VK), Rp K f H σ δ ((v, ra) :: T) → (∀ d v H', P d → Rp K f H' σ δ ((v, .v d) :: T) → Q v H') → r [v] H Q) : CallOk K f δ r [ra] P := fun H σ T vs Q hl R q => by
  obtain ⟨v, ev, ez⟩ := one_of (T := T) rfl hl
  subst ev
  exact h H σ T v Q R q
theorem callOk2 {r : List V → Hp → VK → Prop} {ra rb : Rs} {P : D → Prop} (h : ∀ (H : Hp) (σ : St) (T : List (V × Rs)) (v w : V) (Q : VK), Rp K f H σ δ ((v, ra) :: (w, rb) :: T) → (∀ d v H', P d → Rp K f H' σ δ ((v, .v d) :: T) → Q v H') → r [v, w] H Q) : CallOk K f δ r [ra, rb] P := fun H σ T vs Q hl R q => by
  obtain ⟨v, w, ev, ez⟩ := two_of (T := T) rfl hl
  subst ev
  exact h H σ T v w Q R q
/-! ### len -/
inductive LenS (δ : Env) : List Rs → (D → Prop) → Prop
  | seq {r : Rs} {d : D} {ds : List D} {P : D → Prop} : rsv δ r = some d → itemsOf d = some ds → P (.int (ds.length : Nat)) → LenS δ [r] P
  | str {z : Str} {P : D → Prop} : z.length ≤ sizeLine → P (.int (z.length : Nat)) → LenS δ [.v (.str z)] P
theorem LenS.ok {rs : List Rs} {P : D → Prop} (h : LenS δ rs P) : CallOk K f δ (fun xs H Q => ∃ x n, xs = [x] ∧ LenV K x H n ∧ Q (.int n) H) rs P := by
  cases h with
  | @seq r d ds _ h1 h2 p =>
    refine callOk1 fun H σ T v Q R q => ?_
    obtain ⟨F, o⟩ := R.res (v := v) (r := r) (by simp) h1
    obtain ⟨l, vs, rfl, hs, hl, _⟩ := own_items o h2
    refine ⟨_, ds.length, rfl, ?_, q _ _ _ p (R.tail.pushL rfl)⟩
    rcases hs with hs | hs
    · exact .inl ⟨vs, hs, hl.symm⟩
    · exact .inr ⟨vs, hs, hl.symm⟩
  | @str z _ h1 p =>
    refine callOk1 fun H σ T v Q R q => ?_
    cases R.vstr (v := v) (i := z) (by simp)
    exact ⟨_, z.length, rfl, ⟨h1, rfl⟩, q _ _ _ p (R.tail.pushL rfl)⟩
theorem de_len {p : Pos} (B : Bd X N sc) (J : Jn X Pr w K mg base) (hg : Gls sc "len") (hm : mg "len" = none) (h : DA X f δ [e] fun rs δ1 => LenS δ1 rs fun d => Ψ (.v d) δ1) (he : starEach [e] X.env = (false, eval e X.env) :: starEach [] X.env := by rfl) : DE X f δ (.Call (.Name "len" p) [e] [] pos) Ψ :=
  de_bltn call_len B J hg hm PySem.boot_len (h.mono fun rs δ1 k => k.ok) (he := he)
theorem imm_fzi {l : List Int} : Imm (.fz (l.map .int)) := imm_fz fun x m => by
  obtain ⟨i, _, rfl⟩ := List.mem_map.mp m
  exact imm_int
theorem imm_nil : ∀ x ∈ ([] : List D), Imm x := fun _ m => nomatch m
theorem imm_cons {d : D} {ds : List D} (h : Imm d) (t : ∀ x ∈ ds, Imm x) : ∀ x ∈ d :: ds, Imm x := fun x m => (List.mem_cons.mp m).elim (fun e => e ▸ h) (t x)
theorem imm_app {ds es : List D} (h : ∀ x ∈ ds, Imm x) (t : ∀ x ∈ es, Imm x) : ∀ x ∈ ds ++ es, Imm x := fun x m => (List.mem_append.mp m).elim (h x) (t x)
theorem imm_map {α : Type} {l : List α} {g : α → D} (h : ∀ a, Imm (g a)) : ∀ x ∈ l.map g, Imm x := fun x m => by
  obtain ⟨i, _, rfl⟩ := List.mem_map.mp m
  exact h i
theorem imm_set {ds : List D} {i : Nat} {d : D} (h : ∀ x ∈ ds, Imm x) (t : Imm d) : ∀ x ∈ ds.set i d, Imm x := fun x m => (List.mem_or_eq_of_mem_set m).elim (h x) (fun e => e ▸ t)
/-! ### * of ints -/
theorem de_mul (h : DE X f δ a fun ra δ1 => DE X f δ1 b fun rb δ2 => I2 ra rb fun i j => CMul i j ∧ Ψ (.v (.int (i * j))) δ2) : DE X f δ (.BinOp a .Mult b pos) Ψ :=
  de_op2 op_mul (h.mono fun _ _ h => h.mono fun _ _ k => by cases k with | mk k => exact op2_I (k := fun i j => .int (i * j)) (fun _ _ => rfl) k.1 k.2)
theorem de_neg (h : DE X f δ a fun ra δ1 => ∃ i, ra = .v (.int i) ∧ Ψ (.v (.int (-i))) δ1) : DE X f δ (.UnaryOp .USub a pos) Ψ :=
  DE.of (pe_un un_neg h.h) fun σ H Q ⟨T, R, q⟩ => ⟨T, R, fun ra δ1 v H1 ⟨i, e, k⟩ R1 => by
    subst e
    cases R1.vint (v := v) (i := i) (by simp)
    exact ⟨i, rfl, q _ _ _ _ k (R1.tail.pushL rfl)⟩⟩
end
theorem atI_of {α : Type} {l : List α} {i : Int} (h0 : 0 ≤ i) (h1 : i < (l.length : Int)) : ∃ (j : Nat) (h : j < l.length), i = (j : Int) ∧ atI l i = some l[j] := by
  refine ⟨i.toNat, by omega, by omega, ?_⟩
  unfold atI ixN
  rw [if_pos h0, if_pos h1]
  show l[i.toNat]? = _
  rw [List.getElem?_eq_getElem (by omega)]
theorem atI_ints {l : List Int} {i : Int} (h0 : 0 ≤ i) (h1 : i < (l.length : Int)) : ∃ c, c ∈ l ∧ atI (l.map D.int) i = some (.int c) := by
  obtain ⟨j, hj, e, q⟩ := atI_of (l := l.map D.int) h0 (by simpa using h1)
  refine ⟨l[j]'(by simpa using hj), List.getElem_mem _, ?_⟩
  rw [q, List.getElem_map]
theorem ixN_of {n : Nat} {i : Int} (h0 : 0 ≤ i) (h1 : i < (n : Int)) : ixN n i = some i.toNat := by
  unfold ixN
  rw [if_pos h0, if_pos h1]
/-! ### what a goal is: cheap looks -/
section
variable {X : Cx} {f : Fm} {δ : Env} {e a b c : Expr} {es rest : List Expr} {st : Stmt} {sts : List Stmt} {pos p2 : Pos} {Ψ : Rs → Env → Prop} {Θ : Bool → Env → Prop} {Λ : List Rs → Env → Prop} {Φ : Ph}
theorem g_DE (h : DE X f δ e Ψ) : DE X f δ e Ψ := h
theorem g_DT (h : DT X f δ e Θ) : DT X f δ e Θ := h
theorem g_DW (h : DW X f δ e Θ) : DW X f δ e Θ := h
theorem g_DA (h : DA X f δ es Λ) : DA X f δ es Λ := h
theorem g_DS (h : DS X f δ st Φ) : DS X f δ st Φ := h
theorem g_DB (h : DB X f δ sts Φ) : DB X f δ sts Φ := h
theorem g_cons (h : DB X f δ (st :: sts) Φ) : DB X f δ (st :: sts) Φ := h
theorem g_name {x : Str} (h : DE X f δ (.Name x pos) Ψ) : DE X f δ (.Name x pos) Ψ := h
theorem g_ix (h : DE X f δ (.Subscript a b pos) Ψ) : DE X f δ (.Subscript a b pos) Ψ := h
theorem g_callN {x : Str} (h : DE X f δ (.Call (.Name x p2) es [] pos) Ψ) : DE X f δ (.Call (.Name x p2) es [] pos) Ψ := h
theorem g_callA {o : Expr} {x : Str} (h : DE X f δ (.Call (.Attribute o x p2) es [] pos) Ψ) : DE X f δ (.Call (.Attribute o x p2) es [] pos) Ψ := h
theorem g_len (h : DE X f δ (.Call (.Name "len" p2) [e] [] pos) Ψ) : DE X f δ (.Call (.Name "len" p2) [e] [] pos) Ψ := h
theorem g_acons (h : DA X f δ (e :: es) Λ) : DA X f δ (e :: es) Λ := h
theorem g_set {x : Str} (h : DS X f δ (.Assign [.Name x p2] e pos) Φ) : DS X f δ (.Assign [.Name x p2] e pos) Φ := h
theorem g_setix (h : DS X f δ (.Assign [.Subscript a b p2] e pos) Φ) : DS X f δ (.Assign [.Subscript a b p2] e pos) Φ := h
theorem g_expr (h : DS X f δ (.Expr e pos) Φ) : DS X f δ (.Expr e pos) Φ := h
theorem g_And {A B : Prop} (h : A ∧ B) : A ∧ B := h
theorem g_Ex {α : Sort _} {p : α → Prop} (h : ∃ x, p x) : ∃ x, p x := h
end
/-! ### two ways -/
section
variable {A B : Prop}
theorem br_dec {p : Prop} [Decidable p] (h1 : p → A) (h2 : ¬ p → B) : (decide p = true → A) ∧ (decide p = false → B) := ⟨fun h => h1 (of_decide_eq_true h), fun h => h2 (of_decide_eq_false h)⟩
theorem br_ndec {p : Prop} [Decidable p] (h1 : ¬ p → A) (h2 : p → B) : ((!decide p) = true → A) ∧ ((!decide p) = false → B) := ⟨fun h => h1 (by simpa using h), fun h => h2 (by simpa using h)⟩
theorem br_int {i j : Int} (h1 : i = j → A) (h2 : ¬ i = j → B) : (decide (V.int i = V.int j) = true → A) ∧ (decide (V.int i = V.int j) = false → B) := ⟨fun h => h1 (by simpa using h), fun h => h2 (by simpa using h)⟩
theorem br_nint {i j : Int} (h1 : ¬ i = j → A) (h2 : i = j → B) : ((!decide (V.int i = V.int j)) = true → A) ∧ ((!decide (V.int i = V.int j)) = false → B) := ⟨fun h => h1 (by simpa using h), fun h => h2 (by simpa using h)⟩
theorem br_str {i j : Str} (h1 : i = j → A) (h2 : ¬ i = j → B) : (decide (V.str i = V.str j) = true → A) ∧ (decide (V.str i = V.str j) = false → B) := ⟨fun h => h1 (by simpa using h), fun h => h2 (by simpa using h)⟩
theorem br_nstr {i j : Str} (h1 : ¬ i = j → A) (h2 : i = j → B) : ((!decide (V.str i = V.str j)) = true → A) ∧ ((!decide (V.str i = V.str j)) = false → B) := ⟨fun h => h1 (by simpa using h), fun h => h2 (by simpa using h)⟩
theorem br_true (h1 : A) : (true = true → A) ∧ (true = false → B) := ⟨fun _ => h1, fun h => nomatch h⟩
theorem br_false (h2 : B) : (false = true → A) ∧ (false = false → B) := ⟨fun h => (nomatch h), fun _ => h2⟩
theorem br_bool {b : Bool} (h1 : b = true → A) (h2 : b = false → B) : (b = true → A) ∧ (b = false → B) := ⟨h1, h2⟩
theorem br_sw {b : Bool} (h : (b = true → B) ∧ (b = false → A)) : ((!b) = true → A) ∧ ((!b) = false → B) := ⟨fun q => h.2 (by simpa using q), fun q => h.1 (by simpa using q)⟩
end
end Dl

namespace Dl
open PySem L2

/-! ### targets -/
def tG (K : PySem.W.Frag) (f : Fm) (δ : Env) (d : D) (sl : List Nat) (Ψ : Env → Prop) : TG := fun v σ H Q => ∃ T, Rp K f H σ δ ((v, .v d) :: tv T) ∧ ∀ δ' σ' H', Ψ δ' → σ'.length = σ.length → (∀ j : Nat, j ∉ sl → σ'[j]? = σ[j]?) → Rp K f H' σ' δ' (tv T) → Q σ' H'
def tGs (K : PySem.W.Frag) (f : Fm) (δ : Env) (ds : List D) (sl : List Nat) (Ψ : Env → Prop) : TGs := fun vs σ H Q => ∃ T, vs.length = ds.length ∧ Rp K f H σ δ (vs.zip (ds.map Rs.v) ++ tv T) ∧ ∀ δ' σ' H', Ψ δ' → σ'.length = σ.length → (∀ j : Nat, j ∉ sl → σ'[j]? = σ[j]?) → Rp K f H' σ' δ' (tv T) → Q σ' H'
structure DG (X : Cx) (f : Fm) (δ : Env) (tg : Expr) (d : D) (sl : List Nat) (Ψ : Env → Prop) : Prop where
  h : PG X tg (tG X.K f δ d sl Ψ)
structure DGs (X : Cx) (f : Fm) (δ : Env) (tgs : List Expr) (ds : List D) (sl : List Nat) (Ψ : Env → Prop) : Prop where
  h : PGs X tgs (tGs X.K f δ ds sl Ψ)
section
variable {X : Cx} {f : Fm} {δ : Env} {e a b c tg : Expr} {es rest tgs : List Expr} {st : Stmt} {sts : List Stmt} {pos p2 : Pos} {Ψ : Env → Prop} {Φ : Ph}
variable {N : List Str} {sc : Scope}
theorem pg_imp {t t' : TG} (h : PG X tg t) (i : ∀ v σ H Q, t' v σ H Q → t v σ H Q) : PG X tg t' := ⟨fun pins s σ H v u Q I r q => h.run pins s σ H v u Q I r (i v σ H Q q)⟩
theorem pgs_imp {t t' : TGs} (h : PGs X tgs t) (i : ∀ v σ H Q, t' v σ H Q → t v σ H Q) : PGs X tgs t' := ⟨fun pins s σ H v u Q I r q => h.run pins s σ H v u Q I r (i v σ H Q q)⟩
def uG (X : Cx) (f : Fm) (tg : Expr) : TG := fun v σ H Q => ∃ δ d sl Ψ, DG X f δ tg d sl Ψ ∧ tG X.K f δ d sl Ψ v σ H Q
def uGs (X : Cx) (f : Fm) (tgs : List Expr) : TGs := fun v σ H Q => ∃ δ d sl Ψ, DGs X f δ tgs d sl Ψ ∧ tGs X.K f δ d sl Ψ v σ H Q
theorem pg_u : PG X tg (uG X f tg) := ⟨fun pins s σ H v u Q I r ⟨_, _, _, _, h, q⟩ => h.h.run pins s σ H v u Q I r q⟩
theorem pgs_u : PGs X tgs (uGs X f tgs) := ⟨fun pins s σ H v u Q I r ⟨_, _, _, _, h, q⟩ => h.h.run pins s σ H v u Q I r q⟩
theorem DG.mono {d : D} {sl : List Nat} {Ψ' : Env → Prop} (h : DG X f δ tg d sl Ψ) (i : ∀ δ', Ψ δ' → Ψ' δ') : DG X f δ tg d sl Ψ' := ⟨pg_imp h.h fun v σ H Q ⟨T, R, q⟩ => ⟨T, R, fun δ' σ' H' k => q δ' σ' H' (i _ k)⟩⟩
theorem dg_name {i : Nat} {x : Str} {d : D} (B : Bd X N sc) (hi : Sl N i x) (hx : Sto X sc x) (hu : Unp f i) (k : Ψ (δ.set i (some d))) : DG X f δ (.Name x pos) d [i] Ψ :=
  ⟨pg_imp (pg_name B.ndX (B.ix hi) (B.loc hx) (B.hf hx)) fun v σ H Q ⟨T, R, q⟩ => q _ _ _ k (by simp) (fun j hj => List.getElem?_set_ne (fun z => hj (by simp [z]))) (R.store hu tv_ns)⟩
theorem dgs_nil (k : Ψ δ) : DGs X f δ [] [] [] Ψ := ⟨pgs_imp pgs_nil fun vs σ H Q ⟨T, hl, R, q⟩ => by
  cases vs with
  | nil => exact ⟨rfl, q δ σ H k rfl (fun _ _ => rfl) R⟩
  | cons _ _ => cases hl⟩
theorem tv_cons {v : V} {d : D} {T : List (V × D)} : tv ((v, d) :: T) = (v, Rs.v d) :: tv T := rfl
theorem tv_zip {vs : List V} {ds : List D} {T : List (V × D)} : tv (vs.zip ds ++ T) = vs.zip (ds.map Rs.v) ++ tv T := by
  unfold tv
  rw [List.map_append]
  congr 1
  induction vs generalizing ds with
  | nil => rfl
  | cons v vs ih =>
    cases ds with
    | nil => rfl
    | cons d ds => exact congrArg ((v, Rs.v d) :: ·) ih
theorem dgs_cons {d : D} {ds : List D} {s1 s2 : List Nat} (h : DG X f δ e d s1 fun δ1 => DGs X f δ1 es ds s2 Ψ) (hs : (assignEach (e :: es) X.env).map (·.2) = assign e X.env :: (assignEach es X.env).map (·.2) := by rfl) : DGs X f δ (e :: es) (d :: ds) (s1 ++ s2) Ψ :=
  ⟨pgs_imp (pgs_cons h.h (pgs_u (f := f)) hs) fun vs σ H Q ⟨T, hl, R, q⟩ => by
    cases vs with
    | nil => cases hl
    | cons v vs =>
      have hl' : vs.length = ds.length := by simpa using hl
      refine ⟨v, vs, rfl, vs.zip ds ++ T, ?_, fun δ1 σ1 H1 k l1 s1' R1 => ?_⟩
      · rw [tv_zip]
        exact R
      · rw [tv_zip] at R1
        refine ⟨δ1, ds, s2, Ψ, k, T, hl', R1, fun δ' σ' H' k2 l2 s2' R2 => q δ' σ' H' k2 (l2.trans l1) (fun j hj => ?_) R2⟩
        rw [s2' j (fun z => hj (List.mem_append_right _ z)), s1' j (fun z => hj (List.mem_append_left _ z))]⟩
theorem Rp.untup {K : PySem.W.Frag} {H : Hp} {σ : St} {T : List (V × Rs)} {v : V} {ds : List D} (R : Rp K f H σ δ ((v, .v (.tup ds)) :: T)) : ∃ a vs, v = .ref a ∧ SqT K H a vs ∧ vs.length = ds.length ∧ Rp K f H σ δ (vs.zip (ds.map Rs.v) ++ T) := by
  obtain ⟨F, s, k⟩ := R.own
  obtain ⟨F1, F2, h1, h2, h3, h4, h5⟩ := s
  obtain ⟨a, vs, rfl, n, hl, F3, s3, k3, _⟩ := h1.of_node rfl (fun _ _ q => nomatch q)
  refine ⟨a, vs, rfl, n, hl, R.len, R.has, ⟨fun x => F3 x ∨ F2 x, ?_, fun x q => ?_⟩, fun c m j e => ?_, R.fr, R.tx, R.pin⟩
  · have em : ∀ (vs : List V) (ds : List D), (vs.zip (ds.map Rs.v)).map tc = vs.zip ds := by
      intro vs
      induction vs with
      | nil => intro ds; rfl
      | cons v vs ih =>
        intro ds
        cases ds with
        | nil => rfl
        | cons d ds => show (v, d) :: (vs.zip (ds.map Rs.v)).map tc = (v, d) :: vs.zip ds; rw [ih]
    rw [List.map_append, em, List.append_assoc]
    exact Sep.append s3 h2 fun x q z => h3 x (k3 x q) z
  · rcases q with q | q
    · exact k x (h4 x (k3 x q))
    · exact k x (h5 x q)
  · rcases List.mem_append.mp m with m | m
    · obtain ⟨v1, r1⟩ := c
      obtain ⟨x, _, ex⟩ := List.mem_map.mp (List.of_mem_zip m).2
      cases ex
      cases e
    · exact R.tmp c (List.mem_cons_of_mem _ m) j e
theorem dg_tup {k : Nat} {ds : List D} {sl : List Nat} (B : Bd X N sc) (h : DGs X f δ es ds sl Ψ) (hn : (assignEach es X.env).length = ds.length := by rfl) (hst : (assignEach es X.env).findIdx? (·.1) = none := by rfl) : DG X f δ (.Tuple es k pos) (.tup ds) sl Ψ :=
  ⟨pg_imp (pg_tup B.calm h.h hn hst) fun v σ H Q ⟨T, R, q⟩ => by
    obtain ⟨a, vs, ev, hs, hl, R1⟩ := R.untup
    exact ⟨a, vs, ev, hs, hl, T, hl, R1, q⟩⟩
/-- target = e, any target -/
theorem ds_asg {sl : List Nat} {d : D} (h : DE X f δ e fun r δ1 => ∃ d δ2 sl, Take δ1 r d δ2 ∧ DG X f δ2 tg d sl Φ.nx) (hs : swapsWithSole [tg] e pos.line X.env = pure false := by rfl) (hw : swappedStores [tg] e X.env = pure none := by rfl)
    (h1 : (assignEach [tg] X.env).map (·.2) = [assign tg X.env] := by rfl) : DS X f δ (.Assign [tg] e pos) Φ :=
  DS.of (ps_asg h.h (pg_u (f := f)) hs hw h1) fun E σ H ⟨T, R, n, r, b, c⟩ => ⟨tv T, R, fun r' δ1 v H1 ⟨d, δ2, sl, t, k⟩ R1 => ⟨δ2, d, sl, _, k, T, t.rp R1, fun δ' σ' H' k2 _ _ R2 => n δ' σ' H' k2 R2⟩⟩
end

/-! ### what is walked -/
def Gv (K : PySem.W.Frag) (J : It) (ds : List D) (ss : List (V × D)) : Prop :=
  ∀ H, (∀ c ∈ ss, ∃ F, OwnE K H c.1 c.2 F) → J.stop ds.length H ∧ ∀ (i : Nat) (d : D), ds[i]? = some d → J.go i H ∧ ∀ x H', J.yld i H x H' → Same H H' ∧ ∃ F, OwnE K H' x d F
def tI (K : PySem.W.Frag) (f : Fm) (δ : Env) (Ψ : List Rs → List D → Env → Prop) : TI := fun σ H R => ∃ T, Rp K f H σ δ T ∧
  ∀ (rs : List Rs) (ds es : List D) (δ' : Env) (vs : List V) (H' : Hp) (J : It), Ψ rs ds δ' → vs.length = rs.length → rsvs δ' rs = some es → (∀ d ∈ ds, Imm d) → Rp K f H' σ δ' (vs.zip rs ++ T) → Gv K J ds (vs.zip es) → R J H'
structure DI (X : Cx) (f : Fm) (δ : Env) (tg iter : Expr) (Ψ : List Rs → List D → Env → Prop) : Prop where
  h : PI X tg iter (tI X.K f δ Ψ)
section
variable {X : Cx} {f : Fm} {δ : Env} {e a b c tg iter : Expr} {es rest tgs : List Expr} {st : Stmt} {sts : List Stmt} {pos p2 : Pos} {Ψ : List Rs → List D → Env → Prop} {Φ : Ph}
variable {N : List Str} {sc : Scope} {Pr : Program} {w : World} {K : PySem.W.Frag} {mg : Str → Option Value} {base : Heap}
theorem pi_imp {t t' : TI} (h : PI X tg iter t) (i : ∀ σ H R, t' σ H R → t σ H R) : PI X tg iter t' := ⟨fun pins s σ H R I q => h.run pins s σ H R I (i σ H R q)⟩
/-- a list, a tuple, a text -/
def iSeq (K : PySem.W.Frag) (tl : TE) : TI := fun σ H R => tl σ H fun x H1 => (∃ a, x = .ref a ∧ (((∃ xs, SqL K H1 a xs) ∧ R (Itl K a) H1) ∨ ((∃ xs, SqT K H1 a xs) ∧ R (Itt K a) H1))) ∨ ∃ z, x = .str z ∧ R (Its z) H1
theorem pi_seq {l : Expr} {tl : TE} (hl : PE X l tl) : PI X tg l (iSeq X.K tl) := by
  refine ⟨fun pins s σ H R I h => ?_⟩
  refine thn (hl.run pins s σ H _ I h) fun v s1 ⟨x, H1, I1, r1, q1⟩ => ?_
  rcases q1 with ⟨a, e, ⟨⟨xs, hq⟩, q⟩ | ⟨⟨xs, hq⟩, q⟩⟩ | ⟨z, ez, q⟩
  · subst e
    cases r1
    obtain ⟨its, rv, p, hz⟩ := I1.list hq
    refine wpAny_pyIter_list p.isList ?_
    refine ⟨s1.heap.objs.size, [s1.heap.objs.size], _, _, H1, rfl, I1.kept (t' := s1.toks) fun b o e => Heap.get?_push_of_some _ e, turn_list a _, ⟨_, Heap.get?_push_size _ rfl, rfl, rfl⟩, fun b hb => ?_, q⟩
    have e : b = s1.heap.objs.size := by simpa using hb
    subst e
    exact I1.fpOk (Nat.le_refl _) (I1.hok.fresh (Nat.le_refl _))
  · subst e
    cases r1
    obtain ⟨its, rv, p, hz⟩ := I1.tuple hq
    refine wpAny_pyIter_tuple (show s1.heap.IsTuple a its.toArray from p) ?_
    refine ⟨s1.heap.objs.size, [s1.heap.objs.size], _, _, H1, rfl, I1.kept (t' := s1.toks) fun b o e => Heap.get?_push_of_some _ e, turn_tuple a _, ⟨_, Heap.get?_push_size _ rfl, rfl, rfl⟩, fun b hb => ?_, q⟩
    have e : b = s1.heap.objs.size := by simpa using hb
    subst e
    exact I1.fpOk (Nat.le_refl _) (I1.hok.fresh (Nat.le_refl _))
  · subst ez
    obtain ⟨t, rfl⟩ := r1
    cases ha : z.cps.all (· < 128)
    · exact wpAny_pyIter_wide ha (pi_one (tk := s1.toks) I1 _ (turn_str _ z t "str_iterator" (.inr rfl)) ⟨_, Heap.get?_push_size _ rfl, rfl, rfl⟩ q)
    · exact wpAny_pyIter_ascii ha (pi_one (tk := s1.toks) I1 _ (turn_str _ z t "str_ascii_iterator" (.inl rfl)) ⟨_, Heap.get?_push_size _ rfl, rfl, rfl⟩ q)
/-- the signs of a text as items -/
def signs (z : Str) : List D := z.cps.toList.map fun c => .str ⟨#[c]⟩
inductive SeqS (δ : Env) : Rs → (List Rs → List D → Prop) → Prop
  | seq {r : Rs} {d : D} {ds : List D} {P : List Rs → List D → Prop} : rsv δ r = some d → itemsOf d = some ds → (∀ x ∈ ds, Imm x) → P [r] ds → SeqS δ r P
  | str {z : Str} {P : List Rs → List D → Prop} : P [.v (.str z)] (signs z) → SeqS δ (.v (.str z)) P
theorem gv_seqL {a : Addr} {d : D} {ds : List D} (hi : itemsOf d = some ds) (ht : ∀ H F, OwnE K H (.ref a) d F → ∃ vs, SqL K H a vs ∧ vs.length = ds.length ∧ ∃ F', Sep (OwnE K H) (vs.zip ds) F') : Gv K (Itl K a) ds [(.ref a, d)] := fun H h => by
  obtain ⟨F, o⟩ := h (.ref a, d) List.mem_cons_self
  obtain ⟨vs, hs, hl, F', s⟩ := ht H F o
  refine ⟨⟨vs, hs, by omega⟩, fun i d' hd => ?_⟩
  obtain ⟨v, e1, e2⟩ := zip_get hl hd
  refine ⟨⟨vs, v, hs, e1⟩, fun x H' ⟨eH, y⟩ => ?_⟩
  subst eH
  have := y vs hs
  rw [e1] at this
  cases this
  obtain ⟨F1, q, _⟩ := s.get e2
  exact ⟨Same.refl _, F1, q⟩
theorem gv_seqT {a : Addr} {ds : List D} : Gv K (Itt K a) ds [(.ref a, .tup ds)] := fun H h => by
  obtain ⟨F, o⟩ := h (.ref a, .tup ds) List.mem_cons_self
  obtain ⟨a', vs, ea, hs, hl, F', s⟩ := own_tup o
  cases ea
  refine ⟨⟨vs, hs, by omega⟩, fun i d' hd => ?_⟩
  obtain ⟨v, e1, e2⟩ := zip_get hl hd
  refine ⟨⟨vs, v, hs, e1⟩, fun x H' ⟨eH, y⟩ => ?_⟩
  subst eH
  have := y vs hs
  rw [e1] at this
  cases this
  obtain ⟨F1, q, _⟩ := s.get e2
  exact ⟨Same.refl _, F1, q⟩
theorem gv_str {v : V} {z : Str} : Gv K (Its z) (signs z) [(v, .str z)] := fun H _ => by
  refine ⟨by show z.cps.size ≤ (signs z).length; simp [signs], fun i d hd => ?_⟩
  unfold signs at hd
  rw [List.getElem?_map] at hd
  cases q : z.cps.toList[i]? with
  | none => rw [q] at hd; cases hd
  | some c =>
    rw [q] at hd
    cases hd
    have hi := (List.getElem?_eq_some_iff.mp q).1
    refine ⟨by show i < z.cps.size; simpa using hi, fun x H' ⟨eH, c', e1, e2⟩ => ?_⟩
    subst eH e2
    have : z.cps[i]? = some c := by simpa using q
    rw [this] at e1
    cases e1
    exact ⟨Same.refl _, fun _ => False, .str⟩
theorem own_fz {H : Hp} {v : V} {ds : List D} {F : Fp} (o : OwnE K H v (.fz ds) F) : ∃ p vs, v = .ref p ∧ SqL K H p vs ∧ vs.length = ds.length ∧ ∃ F', Sep (OwnE K H) (vs.zip ds) F' := by
  obtain ⟨a, vs, rfl, h2, h3, F', h4, _⟩ := o.of_node rfl (fun _ _ q => nomatch q)
  refine ⟨a, vs, rfl, ?_, h3, F', h4⟩
  rcases h2 with ⟨o, h2⟩ | h2
  · exact .inl (.inr ⟨o, h2⟩)
  · exact .inr h2
theorem di_seq (h : DE X f δ e fun r δ1 => SeqS δ1 r fun rs ds => Ψ rs ds δ1) : DI X f δ tg e Ψ :=
  ⟨pi_imp (pi_seq h.h) fun σ H R ⟨T, Rr, q⟩ => ⟨T, Rr, fun r δ1 v H1 k R1 => by
    cases k with
    | @seq r d ds _ h1 h2 h3 p =>
      obtain ⟨F, o⟩ := R1.res (v := v) (r := r) (by simp) h1
      have es : rsvs δ1 [r] = some [d] := by unfold rsvs rsvs; rw [h1]
      cases d with
      | tup xs =>
        cases h2
        obtain ⟨a, vs, rfl, hs, hl, _⟩ := own_tup o
        exact .inl ⟨a, rfl, .inr ⟨⟨vs, hs⟩, q [r] ds [.tup ds] δ1 [.ref a] H1 _ p rfl es h3 R1 gv_seqT⟩⟩
      | lst xs =>
        cases h2
        obtain ⟨a, vs, rfl, hs, hl, _⟩ := own_lst o
        refine .inl ⟨a, rfl, .inl ⟨⟨vs, SqL.of hs⟩, q [r] ds [.lst ds] δ1 [.ref a] H1 _ p rfl es h3 R1 (gv_seqL rfl fun H F o => ?_)⟩⟩
        obtain ⟨a', vs', ea, h1, h2⟩ := own_lst o
        cases ea
        exact ⟨vs', SqL.of h1, h2⟩
      | fz xs =>
        cases h2
        obtain ⟨a, vs, rfl, hs, hl, _⟩ := own_fz o
        refine .inl ⟨a, rfl, .inl ⟨⟨vs, hs⟩, q [r] ds [.fz ds] δ1 [.ref a] H1 _ p rfl es h3 R1 (gv_seqL rfl fun H F o => ?_)⟩⟩
        obtain ⟨a', vs', ea, h1, h2⟩ := own_fz o
        cases ea
        exact ⟨vs', h1, h2⟩
      | _ => cases h2
    | @str z _ p =>
      cases R1.vstr (v := v) (i := z) (by simp)
      refine .inr ⟨z, rfl, q [.v (.str z)] (signs z) [.str z] δ1 [.str z] H1 _ p rfl rfl (fun d m => ?_) R1 gv_str⟩
      obtain ⟨c, _, rfl⟩ := List.mem_map.mp m
      exact imm_str⟩⟩
/-- range(n), range(a, b) -/
def rngD (lo : Int) (n : Nat) : List D := (List.range n).map fun i => .int (lo + (i : Nat))
theorem rngD_len {lo : Int} {n : Nat} : (rngD lo n).length = n := by simp [rngD]
theorem rngD_get {lo : Int} {n i : Nat} {d : D} (h : (rngD lo n)[i]? = some d) : i < n ∧ d = .int (lo + (i : Nat)) := by
  unfold rngD at h
  rw [List.getElem?_map] at h
  cases q : (List.range n)[i]? with
  | none => rw [q] at h; cases h
  | some j =>
    rw [q] at h
    cases h
    obtain ⟨h1, h2⟩ := List.getElem?_eq_some_iff.mp q
    simp at h1 h2
    subst h2
    exact ⟨h1, rfl⟩
theorem rngD_imm {lo : Int} {n : Nat} : ∀ d ∈ rngD lo n, Imm d := fun d m => by
  obtain ⟨i, _, rfl⟩ := List.mem_map.mp m
  exact imm_int
theorem gv_range {lo : Int} {n : Nat} {ss : List (V × D)} : Gv K (Itr lo n) (rngD lo n) ss := fun H _ => by
  refine ⟨by show n ≤ _; rw [rngD_len]; exact Nat.le_refl _, fun i d hd => ?_⟩
  obtain ⟨h1, h2⟩ := rngD_get hd
  refine ⟨h1, fun x H' ⟨eH, ex⟩ => ?_⟩
  subst eH ex h2
  exact ⟨Same.refl _, fun _ => False, .int⟩
theorem di_range {p : Pos} (B : Bd X N sc) (J : Jn X Pr w K mg base) (hg : Gls sc "range") (hm : mg "range" = none) (h : DA X f δ [a] fun rs δ1 => ∃ n, rs = [.v (.int n)] ∧ (-(2 ^ 62) ≤ n ∧ n < 2 ^ 62) ∧ Ψ [] (rngD 0 n.toNat) δ1) (hs : starEach [a] X.env = [(false, eval a X.env)] := by rfl) :
    DI X f δ tg (.Call (.Name "range" p) [a] [] pos) Ψ :=
  ⟨pi_imp (pi_range1 (B.glob hg) (by rw [J.mg]; exact hm) h.h hs) fun σ H R ⟨T, Rr, q⟩ => ⟨T, Rr, fun rs δ1 vs H1 ⟨n, e, hb, k⟩ hl R1 => by
    obtain ⟨v, ev, ez⟩ := one_of (T := T) e hl
    subst ev
    rw [ez] at R1
    cases R1.vint (v := v) (i := n) (by simp)
    exact ⟨n, rfl, hb.1, hb.2, q [] _ [] δ1 [] H1 _ k rfl rfl rngD_imm R1.tail gv_range⟩⟩⟩
theorem di_range2 {p : Pos} (B : Bd X N sc) (J : Jn X Pr w K mg base) (hg : Gls sc "range") (hm : mg "range" = none)
    (h : DA X f δ [a, b] fun rs δ1 => ∃ m n, rs = [.v (.int m), .v (.int n)] ∧ (-(2 ^ 62) ≤ m ∧ m < 2 ^ 62 ∧ -(2 ^ 62) ≤ n ∧ n < 2 ^ 62) ∧ Ψ [] (rngD m (n - m).toNat) δ1)
    (hs : starEach [a, b] X.env = [(false, eval a X.env), (false, eval b X.env)] := by rfl) (hs2 : starEach [b] X.env = [(false, eval b X.env)] := by rfl) :
    DI X f δ tg (.Call (.Name "range" p) [a, b] [] pos) Ψ :=
  ⟨pi_imp (pi_range2 (B.glob hg) (by rw [J.mg]; exact hm) h.h hs hs2) fun σ H R ⟨T, Rr, q⟩ => ⟨T, Rr, fun rs δ1 vs H1 ⟨m, n, e, hb, k⟩ hl R1 => by
    obtain ⟨v, u, ev, ez⟩ := two_of (T := T) e hl
    subst ev
    rw [ez] at R1
    cases R1.vint (v := v) (i := m) (by simp)
    cases R1.vint (v := u) (i := n) (by simp)
    exact ⟨m, n, rfl, hb, q [] _ [] δ1 [] H1 _ k rfl rfl rngD_imm R1.tail2 gv_range⟩⟩⟩

/-! ### for, while -/
theorem tv_zipv {vs : List V} {es : List D} {T : List (V × D)} : vs.zip (es.map Rs.v) ++ tv T = tv (vs.zip es ++ T) := tv_zip.symm
theorem rs_v : ∀ {rs : List Rs} {es : List D}, slots rs = [] → rsvs δ rs = some es → rs = es.map Rs.v
  | [], es, _, h => by cases h; rfl
  | .v d :: rs, es, hs, h => by
    unfold rsvs at h
    cases e2 : rsvs δ rs with
    | none => rw [e2] at h; cases h
    | some ds' =>
      rw [e2] at h
      cases h
      show Rs.v d :: rs = Rs.v d :: ds'.map Rs.v
      rw [rs_v (rs := rs) hs e2]
  | .s i :: rs, es, hs, _ => by cases hs
/-- for target in iter: body, the walked thing not a list that stands in a slot -/
theorem ds_for {body : List Stmt} (B : Bd X N sc) (h : DI X f δ tg iter fun rs ds δ1 => slots rs = [] ∧ ∃ I : Nat → Env → Prop, I 0 δ1 ∧
      (∀ (i : Nat) (d : D) δ2, ds[i]? = some d → I i δ2 → ∃ sl, DG X f δ2 tg d sl fun δ3 => DB X f δ3 body { nx := I (i + 1), rt := Φ.rt, bk := Φ.nx, ct := I (i + 1) }) ∧ ∀ δ2, I ds.length δ2 → Φ.nx δ2)
    (hs : ∀ x, foldedSetIterable iter X.env x = pure x := by intro _; rfl) : DS X f δ (.For tg iter body [] pos) Φ :=
  DS.of (ps_for B.pass B.calm h.h (pg_u (f := f)) (pb_u (f := f)) hs) fun E σ H ⟨T, R, n, r, b, c⟩ => ⟨tv T, R, fun rs ds es δ1 vs H1 J ⟨hsl, I, i0, st, en⟩ hl he him R1 g => by
    have erv := rs_v hsl he
    subst erv
    rw [tv_zipv] at R1
    have src : ∀ {H2 : Hp} {σ2 : St} {δ2 : Env}, Rp X.K f H2 σ2 δ2 (tv (vs.zip es ++ T)) → ∀ c ∈ vs.zip es, ∃ F, OwnE X.K H2 c.1 c.2 F := fun R2 c m => R2.res (r := .v c.2) (List.mem_map.mpr ⟨c, List.mem_append_left _ m, rfl⟩) rfl
    have drop : ∀ {H2 : Hp} {σ2 : St} {δ2 : Env} {cs : List (V × D)}, Rp X.K f H2 σ2 δ2 (tv (cs ++ T)) → Rp X.K f H2 σ2 δ2 (tv T) := by
      intro H2 σ2 δ2 cs
      induction cs with
      | nil => exact fun h => h
      | cons c cs ih => exact fun h => ih (Rp.tail h)
    have drop1 : ∀ {H2 : Hp} {σ2 : St} {δ2 : Env} {cs : List (V × D)} {c : V × Rs}, Rp X.K f H2 σ2 δ2 (c :: tv (cs ++ T)) → Rp X.K f H2 σ2 δ2 (c :: tv T) := by
      intro H2 σ2 δ2 cs
      induction cs with
      | nil => exact fun h => h
      | cons c cs ih => exact fun h => ih ((h.perm (List.Perm.swap _ _ _)).tail)
    refine ⟨fun i m σ2 H2 => m = ds.length - i ∧ i ≤ ds.length ∧ ∃ δ2, I i δ2 ∧ Rp X.K f H2 σ2 δ2 (tv (vs.zip es ++ T)), ⟨ds.length, by simp, Nat.zero_le _, δ1, i0, R1⟩, ?_⟩
    rintro i m σ2 H2 ⟨rfl, hi, δ2, k2, R2⟩
    obtain ⟨g1, g2⟩ := g H2 (src R2)
    by_cases hlt : i < ds.length
    · have hd : ds[i]? = some ds[i] := List.getElem?_eq_getElem hlt
      obtain ⟨gg, gy⟩ := g2 i _ hd
      refine .inr ⟨gg, fun σ' H' => ∃ δ', I (i + 1) δ' ∧ Rp X.K f H' σ' δ' (tv (vs.zip es ++ T)), fun σ' H' ⟨δ', k', R'⟩ => ⟨ds.length - (i + 1), by omega, rfl, hlt, δ', k', R'⟩, fun x H' y => ?_⟩
      obtain ⟨sm, F, o⟩ := gy x H' y
      obtain ⟨sl, hg⟩ := st i _ δ2 hd k2
      refine ⟨δ2, _, sl, _, hg, vs.zip es ++ T, (R2.same sm).pushI o (him _ (List.getElem_mem _)), fun δ3 σ3 H3 k3 _ _ R3 => ⟨δ3, _, k3, vs.zip es ++ T, R3, fun δ' σ' H' k R' => ⟨δ', k, R'⟩, fun d δ' v σ' H' k R' => r d δ' v σ' H' k (drop1 R'), fun δ' σ' H' k R' => n δ' σ' H' k (drop R'), fun δ' σ' H' k R' => ⟨δ', k, R'⟩⟩⟩
    · have e : i = ds.length := by omega
      subst e
      exact .inl ⟨g1, n δ2 σ2 H2 (en δ2 k2) (drop R2)⟩⟩
theorem ds_while {body : List Stmt} (B : Bd X N sc) (W : Nat → Env → Prop) (m0 : Nat) (h0 : W m0 δ)
    (hs : ∀ m δ2, W m δ2 → DT X f δ2 c fun t δ3 => (t = true → DB X f δ3 body { nx := fun δ4 => ∃ m', m' < m ∧ W m' δ4, rt := Φ.rt, bk := Φ.nx, ct := fun δ4 => ∃ m', m' < m ∧ W m' δ4 }) ∧ (t = false → Φ.nx δ3)) : DS X f δ (.While c body [] pos) Φ :=
  DS.of (ps_while B.pass (pt_u (f := f)) (pb_u (f := f))) fun E σ H ⟨T, R, n, r, b, cc⟩ => by
    refine ⟨fun m σ2 H2 => ∃ δ2, W m δ2 ∧ Rp X.K f H2 σ2 δ2 (tv T), ⟨m0, δ, h0, R⟩, fun m σ2 H2 ⟨δ2, w2, R2⟩ => ⟨δ2, _, hs m δ2 w2, tv T, R2, fun t δ3 H3 k R3 => ?_⟩⟩
    cases t with
    | true =>
      rw [if_pos rfl]
      refine ⟨fun σ' H' => ∃ m', m' < m ∧ ∃ δ', W m' δ' ∧ Rp X.K f H' σ' δ' (tv T), fun σ' H' ⟨m', h1, h2⟩ => ⟨m', h1, h2⟩, δ3, _, k.1 rfl, T, R3, fun δ' σ' H' ⟨m', h1, h2⟩ R' => ⟨m', h1, δ', h2, R'⟩, r, n, fun δ' σ' H' ⟨m', h1, h2⟩ R' => ⟨m', h1, δ', h2, R'⟩⟩
    | false =>
      rw [if_neg Bool.false_ne_true]
      exact n δ3 σ2 H3 (k.2 rfl) R3
theorem ds_break (k : Φ.bk δ) : DS X f δ (.Break pos) Φ := DS.of ps_break fun E σ H ⟨T, R, n, r, b, c⟩ => b δ σ H k R
theorem ds_continue (k : Φ.ct δ) : DS X f δ (.Continue pos) Φ := DS.of ps_continue fun E σ H ⟨T, R, n, r, b, c⟩ => c δ σ H k R
end
end Dl

namespace Dl
open PySem L2

/-! ### comprehensions -/
/-- the block's scope, the names of the def that it uses told anew -/
def rl (scope sc : Scope) : Scope :=
  { scope with names := scope.names.map fun (n, k) => if (k == .free && sc.kind == .function && sc.names.lookup n == some .cell) then (n, .cell) else (n, k) }
/-- a comprehension's block in X -/
structure Blk (X X' : Cx) : Prop where
  prog : X'.prog = X.prog
  w : X'.w = X.w
  K : X'.K = X.K
  mg : X'.mg = X.mg
  base : X'.base = X.base
  A : X'.A = X.A
def clr (δ : Env) : List Nat → Env
  | [] => δ
  | v :: vs => (clr δ vs).set v none
section
variable {X X' : Cx} {f : Fm} {δ : Env} {e a b c tg iter elt : Expr} {es rest tgs ifs : List Expr} {st : Stmt} {sts : List Stmt} {pos p2 : Pos} {Ψ : Rs → Env → Prop} {Φ : Ph}
variable {N : List Str} {sc scope : Scope} {Pr : Program} {w : World} {K : PySem.W.Frag} {mg : Str → Option Value} {base : Heap}
theorem Blk.jn (b : Blk X X') (J : Jn X Pr w K mg base) : Jn X' Pr w K mg base := ⟨b.prog.trans J.prog, b.w.trans J.w, b.K.trans J.K, b.mg.trans J.mg, b.base.trans J.base⟩
theorem Blk.room {k : Nat} (b : Blk X X') (h : Room k X.A) : Room k X'.A := by
  rw [b.A]
  exact h
structure DTs (X : Cx) (f : Fm) (δ : Env) (ifs : List Expr) (Θ : Bool → Env → Prop) : Prop where
  h : PTs X ifs (tT X.K f δ Θ)
def uTs (X : Cx) (f : Fm) (ifs : List Expr) : TT := fun σ H Q => ∃ δ Ψ, DTs X f δ ifs Ψ ∧ tT X.K f δ Ψ σ H Q
theorem pts_u : PTs X ifs (uTs X f ifs) := ⟨fun pins s σ H Q I ⟨_, _, h, q⟩ => h.h.run pins s σ H Q I q⟩
theorem dts_nil {Θ : Bool → Env → Prop} (k : Θ true δ) : DTs X f δ [] Θ := ⟨⟨fun pins s σ H Q I ⟨T, R, q⟩ => pts_nil.run pins s σ H Q I (q true δ H k R)⟩⟩
theorem dts_one {Θ : Bool → Env → Prop} (h : DT X f δ c Θ) : DTs X f δ [c] Θ := ⟨pts_one h.h⟩
theorem clr_len : ∀ {vs : List Nat}, (clr δ vs).length = δ.length
  | [] => rfl
  | v :: vs => by unfold clr; rw [List.length_set]; exact clr_len
theorem clr_get {j : Nat} : ∀ {vs : List Nat}, (clr δ vs)[j]? = if j ∈ vs ∧ j < δ.length then some none else δ[j]?
  | [] => by simp [clr]
  | v :: vs => by
    unfold clr
    rw [List.getElem?_set, clr_get (vs := vs), clr_len]
    by_cases h : v = j
    · subst h
      by_cases h2 : v < δ.length
      · simp [h2]
      · simp [h2]
    · have : ¬ j = v := fun q => h q.symm
      simp [h, this]
theorem wipe_get {σ : St} {j : Nat} : ∀ {vs : List Nat}, (wipe σ vs)[j]? = if j ∈ vs ∧ j < σ.length then some none else σ[j]?
  | [] => by simp [wipe]
  | v :: vs => by
    unfold wipe
    rw [List.getElem?_set, wipe_get (vs := vs), wipe_length]
    by_cases h : v = j
    · subst h
      by_cases h2 : v < σ.length
      · simp [h2]
      · simp [h2]
    · have : ¬ j = v := fun q => h q.symm
      simp [h, this]
theorem wipe_eq {σ σ' : St} {vs : List Nat} (hl : σ'.length = σ.length) (h : ∀ j : Nat, j ∉ vs → σ'[j]? = σ[j]?) : wipe σ' vs = wipe σ vs := by
  apply List.ext_getElem?
  intro j
  rw [wipe_get, wipe_get, hl]
  by_cases hj : j ∈ vs
  · by_cases h2 : j < σ.length
    · simp [hj, h2]
    · rw [if_neg (by simp [h2]), if_neg (by simp [h2]), List.getElem?_eq_none (by omega), List.getElem?_eq_none (by omega)]
  · simp [hj, h j hj]
theorem Rp.forgetAll {σ : St} {H : Hp} {T : List (V × Rs)} (R : Rp K f H σ δ T) : ∀ (vs : List Nat), Rp K f H σ (clr δ vs) T
  | [] => R
  | v :: vs => (R.forgetAll vs).forget
/-- forgotten slots may hold anything -/
theorem Rp.cleared {σ σ' : St} {H : Hp} {T : List (V × D)} {vs : List Nat} (R0 : Rp K f H σ δ (tv T)) (hl : σ'.length = σ.length) (h : ∀ j : Nat, j ∉ vs → σ'[j]? = σ[j]?) (hp : ∀ j ∈ vs, Unp f j) : Rp K f H σ' (clr δ vs) (tv T) := by
  have R := R0.forgetAll vs
  obtain ⟨F, s, k⟩ := R.own
  have ec : cells σ' (clr δ vs) = cells σ (clr δ vs) := by
    unfold cells
    apply List.ext_getElem?
    intro j
    rw [List.getElem?_zipWith, List.getElem?_zipWith]
    by_cases hj : j ∈ vs
    · by_cases h2 : j < δ.length
      · have e1 : (clr δ vs)[j]? = some none := by rw [clr_get, if_pos ⟨hj, h2⟩]
        have l1 := R0.len
        rw [e1, List.getElem?_eq_getElem (l := σ) (by omega), List.getElem?_eq_getElem (l := σ') (by omega)]
        have : ∀ x : Option V, cl x none = (.non, .non) := fun x => by cases x <;> rfl
        simp only [this]
      · have e1 : (clr δ vs)[j]? = none := List.getElem?_eq_none (by rw [clr_len]; omega)
        have l1 := R0.len
        rw [e1, List.getElem?_eq_none (l := σ) (by omega), List.getElem?_eq_none (l := σ') (by omega)]
    · rw [h j hj]
  refine ⟨by rw [hl]; exact R.len, fun j d e => ?_, ⟨F, by rw [ec]; exact s, k⟩, fun c m j e => absurd e (tv_ns c m j), R.fr, R.tx, fun i m => ?_⟩
  · by_cases hj : j ∈ vs
    · rw [clr_get] at e
      by_cases h2 : j < δ.length
      · rw [if_pos ⟨hj, h2⟩] at e; cases e
      · rw [if_neg (by simp [h2]), List.getElem?_eq_none (by omega)] at e; cases e
    · obtain ⟨v, q⟩ := R.has j d e
      exact ⟨v, by rw [h j hj]; exact q⟩
  · rw [h i fun z => hp i z i m rfl]
    exact R.pin i m
/-- slot references ahead of a block: their values alone -/
def plain : List (V × Rs) → List (V × D)
  | [] => []
  | (v, .v d) :: T => (v, d) :: plain T
  | (v, .s _) :: T => (v, .opq v) :: plain T
theorem plain_tc : ∀ {T : List (V × Rs)}, (tv (plain T)).map tc = T.map tc
  | [] => rfl
  | (v, .v d) :: T => congrArg ((v, d) :: ·) (plain_tc (T := T))
  | (v, .s i) :: T => congrArg ((v, D.opq v) :: ·) (plain_tc (T := T))
theorem Rp.toPlain {σ : St} {H : Hp} {T : List (V × Rs)} (R : Rp K f H σ δ T) : Rp K f H σ δ (tv (plain T)) := by
  obtain ⟨F, s, k⟩ := R.own
  exact ⟨R.len, R.has, ⟨F, by rw [plain_tc]; exact s, k⟩, fun c m j e => absurd e (tv_ns c m j), R.fr, R.tx, R.pin⟩
theorem Rp.ofPlain {σ : St} {H H0 : Hp} {T : List (V × Rs)} {c : V × D} {δ0 : Env} (R : Rp K f H σ δ (tv (c :: plain T))) (R0 : Rp K f H0 σ δ0 T) : Rp K f H σ δ ((c.1, .v c.2) :: T) := by
  obtain ⟨F, s, k⟩ := R.own
  have s' : Sep (OwnE K H) (c :: ((tv (plain T)).map tc ++ cells σ δ)) F := s
  rw [plain_tc] at s'
  refine ⟨R.len, R.has, ⟨F, s', k⟩, fun c' m j e => ?_, R.fr, R.tx, R.pin⟩
  rcases List.mem_cons.mp m with m | m
  · rw [m] at e; cases e
  · exact R0.tmp c' m j e
theorem plain_zip {T0 : List (V × Rs)} : ∀ {vs : List V} {es : List D}, plain (vs.zip (es.map Rs.v) ++ T0) = vs.zip es ++ plain T0
  | [], _ => rfl
  | _ :: _, [] => rfl
  | v :: vs, e :: es => congrArg ((v, e) :: ·) (plain_zip (vs := vs) (es := es))
theorem Rp.unwipe {σ : St} {H : Hp} {T : List (V × D)} {vs : List Nat} (R : Rp K f H (wipe σ vs) δ (tv T)) (hp : ∀ j ∈ vs, Unp f j) : Rp K f H σ δ (tv T) := by
  have nn : ∀ j ∈ vs, ∀ d, δ[j]? ≠ some (some d) := fun j hj d e => by
    obtain ⟨v, q⟩ := R.has j d e
    rw [wipe_get] at q
    have hl := (List.getElem?_eq_some_iff.mp e).1
    rw [if_pos ⟨hj, by have := R.len; rw [wipe_length] at this; omega⟩] at q
    cases q
  have hl : σ.length = δ.length := by have := R.len; rw [wipe_length] at this; exact this
  obtain ⟨F, s, k⟩ := R.own
  have ec : cells σ δ = cells (wipe σ vs) δ := by
    unfold cells
    apply List.ext_getElem?
    intro j
    rw [List.getElem?_zipWith, List.getElem?_zipWith, wipe_get]
    by_cases hj : j ∈ vs ∧ j < σ.length
    · rw [if_pos hj, List.getElem?_eq_getElem (l := σ) hj.2]
      cases q : δ[j]? with
      | none => rfl
      | some y =>
        cases y with
        | none => cases σ[j] <;> rfl
        | some d => exact absurd q (nn j hj.1 d)
    · rw [if_neg hj]
  refine ⟨hl, fun j d e => ?_, ⟨F, by rw [ec]; exact s, k⟩, fun c m j e => absurd e (tv_ns c m j), R.fr, R.tx, fun i m => ?_⟩
  · obtain ⟨v, q⟩ := R.has j d e
    rw [wipe_get] at q
    split at q
    · cases q
    · exact ⟨v, q⟩
  · have q := R.pin i m
    rw [wipe_get] at q
    split at q
    · cases q
    · exact q
theorem bd_blk {s : Shared} {H : Hp} {C : Addr} {cl : List (Str × Addr)} {fp : List Addr} (B : Bd X N sc) : Bd (X.blk s H scope (compEnvC scope cl C X.env) fp) N (rl scope sc) :=
  ⟨B.eN, by rw [← B.eS]; rfl, B.calm, B.nd, PassesOwn.never⟩
theorem blk_ok {s : Shared} {H : Hp} {C : Addr} {cl : List (Str × Addr)} {fp : List Addr} : Blk X (X.blk s H scope (compEnvC scope cl C X.env) fp) := ⟨rfl, rfl, rfl, rfl, rfl, rfl⟩
/-- whatever block of X -/
abbrev InB (X : Cx) (N : List Str) (sc : Scope) (P : Cx → Prop) : Prop := ∀ X', Blk X X' → Bd X' N sc → P X'
/-- what a turn of a comprehension must do; P: what follows a kept item, or a turn without one -/
def Turn1 (X : Cx) (N : List Str) (sc : Scope) (f : Fm) (tg elt : Expr) (ifs : List Expr) (own : List Nat) (d : D) (δ : Env) (P : Option D → Env → Prop) : Prop :=
  InB X N sc fun X' => DG X' f δ tg d own fun δ3 => InB X N sc fun X' => DTs X' f δ3 ifs fun t δ4 =>
    (t = true → InB X N sc fun X' => DE X' f δ4 elt fun r δ5 => ∃ e δ6, Take δ5 r e δ6 ∧ P (some e) (clr δ6 own)) ∧ (t = false → P none (clr δ4 own))
def addO (acc : List D) : Option D → List D
  | some e => acc ++ [e]
  | none => acc
/-- what holds in every block -/
def bG (X : Cx) (N : List Str) (sc : Scope) (f : Fm) (tg : Expr) : TG := fun v σ H Q => ∃ δ d sl Ψ, (InB X N sc fun X' => DG X' f δ tg d sl Ψ) ∧ tG X.K f δ d sl Ψ v σ H Q
def bT (X : Cx) (N : List Str) (sc : Scope) (f : Fm) (ifs : List Expr) : TT := fun σ H Q => ∃ δ Ψ, (InB X N sc fun X' => DTs X' f δ ifs Ψ) ∧ tT X.K f δ Ψ σ H Q
def bE (X : Cx) (N : List Str) (sc : Scope) (f : Fm) (elt : Expr) : TE := fun σ H Q => ∃ δ Ψ, (InB X N sc fun X' => DE X' f δ elt Ψ) ∧ tE X.K f δ Ψ σ H Q
theorem bG_ok (B : Bd X N sc) {s : Shared} {H : Hp} {C : Addr} {cl : List (Str × Addr)} {fp : List Addr} : PG (X.blk s H scope (compEnvC scope cl C X.env) fp) tg (bG X N (rl scope sc) f tg) := ⟨fun pins s' σ H v u Q I r ⟨_, _, _, _, k, q⟩ => (k _ blk_ok (bd_blk B)).h.run pins s' σ H v u Q I r q⟩
theorem bT_ok (B : Bd X N sc) {s : Shared} {H : Hp} {C : Addr} {cl : List (Str × Addr)} {fp : List Addr} : PTs (X.blk s H scope (compEnvC scope cl C X.env) fp) ifs (bT X N (rl scope sc) f ifs) := ⟨fun pins s' σ H Q I ⟨_, _, k, q⟩ => (k _ blk_ok (bd_blk B)).h.run pins s' σ H Q I q⟩
theorem bE_ok (B : Bd X N sc) {s : Shared} {H : Hp} {C : Addr} {cl : List (Str × Addr)} {fp : List Addr} : PE (X.blk s H scope (compEnvC scope cl C X.env) fp) elt (bE X N (rl scope sc) f elt) := ⟨fun pins s' σ H Q I ⟨_, _, k, q⟩ => (k _ blk_ok (bd_blk B)).h.run pins s' σ H Q I q⟩
/-- what a comprehension over ds does -/
def LcOk (X : Cx) (N : List Str) (sc : Scope) (f : Fm) (tg elt : Expr) (ifs : List Expr) (own : List Nat) (Ψ : Rs → Env → Prop) (rs : List Rs) (ds : List D) (δ1 : Env) : Prop :=
  slots rs = [] ∧ ds.length < sizeLine ∧ ∃ I : Nat → List D → Env → Prop, I 0 [] (clr δ1 own) ∧
      (∀ (i : Nat) (d : D) acc δ2, ds[i]? = some d → acc.length ≤ i → I i acc δ2 → Turn1 X N sc f tg elt ifs own d δ2 fun o δ3 => I (i + 1) (addO acc o) δ3) ∧ ∀ acc δ2, I ds.length acc δ2 → Ψ (.v (.lst acc)) δ2
theorem lc_read {own : List Nat} (hp : ∀ j ∈ own, Unp f j) : ∀ σ H Q, tE X.K f δ Ψ σ H Q → tLc (tI X.K f δ (LcOk X N (rl scope sc) f tg elt ifs own Ψ)) (bG X N (rl scope sc) f tg) (bT X N (rl scope sc) f ifs) (bE X N (rl scope sc) f elt) own σ H Q := by
  refine fun σ H Q ⟨T0, R0, q⟩ => ⟨T0, R0, fun rs ds es δ1 vs H1 J ⟨hsl, hsz, I, i0, st, en⟩ hl he him R1 gv Dl hD => ?_⟩
  have erv := rs_v hsl he
  subst erv
  have R1p : Rp X.K f H1 σ δ1 (tv (vs.zip es ++ plain T0)) := by
    have := R1.toPlain
    rw [plain_zip] at this
    exact this
  have hwc : ∀ {σ : St}, (wipe σ own).length = σ.length := wipe_length _ _
  have hwg : ∀ {σ : St} (j : Nat), j ∉ own → (wipe σ own)[j]? = σ[j]? := fun j hj => by rw [wipe_get]; simp [hj]
  have src : ∀ {H2 : Hp} {σ2 : St} {δ2 : Env} {c0 : V × D}, Rp X.K f H2 σ2 δ2 (tv (c0 :: (vs.zip es ++ plain T0))) → ∀ c ∈ vs.zip es, ∃ F, OwnE X.K H2 c.1 c.2 F := fun R2 c m => R2.res (r := .v c.2) (List.mem_map.mpr ⟨c, List.mem_cons_of_mem _ (List.mem_append_left _ m), rfl⟩) rfl
  -- the list under work at Dl, the sources, the rest
  refine ⟨fun i m H2 => m = ds.length - i ∧ i ≤ ds.length ∧ ∃ acc δ2, acc.length ≤ i ∧ I i acc δ2 ∧ Rp X.K f H2 (wipe σ own) δ2 (tv ((.ref Dl, .lst acc) :: (vs.zip es ++ plain T0))),
    ⟨ds.length, by simp, Nat.zero_le _, [], _, Nat.le_refl _, i0, ?_⟩, ?_⟩
  · have R2 : Rp X.K f (upd H1 Dl (.lst [])) σ δ1 (tv ((.ref Dl, .lst []) :: (vs.zip es ++ plain T0))) := Rp.newI (vs := []) R1p hD (show upd H1 Dl _ Dl = _ from upd_same) rfl fun c m => nomatch m
    exact R2.cleared hwc (fun j hj => hwg j hj) hp
  · rintro i m H2 ⟨rfl, hi, acc, δ2, hacc, k2, R2⟩
    obtain ⟨g1, g2⟩ := gv H2 (src R2)
    by_cases hlt : i < ds.length
    · have hd : ds[i]? = some ds[i] := List.getElem?_eq_getElem hlt
      obtain ⟨gg, gy⟩ := g2 i _ hd
      refine .inr ⟨gg, fun H' => ∃ acc' δ', acc'.length ≤ i + 1 ∧ I (i + 1) acc' δ' ∧ Rp X.K f H' (wipe σ own) δ' (tv ((.ref Dl, .lst acc') :: (vs.zip es ++ plain T0))), fun H' ⟨acc', δ', h1, k', R'⟩ => ⟨ds.length - (i + 1), by omega, rfl, hlt, acc', δ', h1, k', R'⟩, fun x H' y => ?_⟩
      obtain ⟨sm, F, o⟩ := gy x H' y
      have tn := st i _ acc δ2 hd hacc k2
      unfold Turn1 at tn
      refine ⟨δ2, _, own, _, tn, (.ref Dl, .lst acc) :: (vs.zip es ++ plain T0), (R2.same sm).pushI o (him _ (List.getElem_mem _)), fun δ3 σ3 H3 k3 l3 s3 R3 => ⟨?_, δ3, _, k3, _, R3, fun t δ4 H4 k4 R4 => ?_⟩⟩
      · have w0 : wipe (wipe σ own) own = wipe σ own := wipe_eq hwc fun j hj => hwg j hj
        rw [wipe_eq l3 s3, w0]
      · have back : ∀ {H5 : Hp} {δ5 : Env} {acc' : List D}, Rp X.K f H5 σ3 δ5 (tv ((.ref Dl, .lst acc') :: (vs.zip es ++ plain T0))) → Rp X.K f H5 (wipe σ own) (clr δ5 own) (tv ((.ref Dl, .lst acc') :: (vs.zip es ++ plain T0))) := fun R5 => R5.cleared l3.symm (fun j hj => (s3 j hj).symm) hp
        cases t with
        | true =>
          show bE X N (rl scope sc) f elt σ3 H4 _
          refine ⟨δ4, _, k4.1 rfl, _, R4, fun r δ5 v5 H5 ⟨e, δ6, tk, k6⟩ R5 => ?_⟩
          have R6 := tk.rp R5
          have R7 : Rp X.K f H5 σ3 δ6 ((.ref Dl, .v (.lst acc)) :: ([(v5, Rs.v e)] ++ tv (vs.zip es ++ plain T0))) := R6.perm (List.Perm.swap _ _ _)
          obtain ⟨ws, n1, l1, ch⟩ := R7.change rfl
          have l1' : ws.length = acc.length := l1
          refine ⟨ws, n1, by omega, addO acc (some e), _, ?_, k6, ?_⟩
          · show (acc ++ [e]).length ≤ i + 1
            simp; exact hacc
          · refine back (ch _ (.lst (acc ++ [e])) (ws ++ [v5]) (show upd H5 Dl _ Dl = _ from upd_same) rfl (by simp [kids, l1']) (fun F s => ?_) fun o u z => by rw [show H5 Dl = some (.lst ws) from n1] at z; cases z)
            show Sep _ ((ws ++ [v5]).zip (acc ++ [e])) F
            rw [zip_app l1']
            exact s
        | false =>
          show ∃ acc' δ', _
          exact ⟨acc, _, by omega, k4.2 rfl, back R4⟩
    · have e : i = ds.length := by omega
      subst e
      refine .inl ⟨g1, ?_⟩
      -- the sources dropped, the slots' references again
      have R3 : Rp X.K f H2 (wipe σ own) δ2 (tv ((.ref Dl, .lst acc) :: plain T0)) := by
        have drop : ∀ {cs : List (V × D)} {c : V × D}, Rp X.K f H2 (wipe σ own) δ2 (tv (c :: (cs ++ plain T0))) → Rp X.K f H2 (wipe σ own) δ2 (tv (c :: plain T0)) := by
          intro cs
          induction cs with
          | nil => exact fun h => h
          | cons c' cs ih => exact fun h => ih ((h.perm (List.Perm.swap _ _ _)).tail)
        exact drop R2
      exact q _ _ _ _ (en acc δ2 k2) (Rp.ofPlain (R3.unwipe hp) R0)
/-- [elt for tg in iter if ..] -/
theorem de_lc {own : List (Str × Nat)} (B : Bd X N sc) (ok : BlkOk N sc scope own) (hp : ∀ j ∈ own.map (·.2), Unp f j)
    (h : DI X f δ tg iter (LcOk X N (rl scope sc) f tg elt ifs (own.map (·.2)) Ψ)) (hs : ∀ x, foldedSetIterable iter X.env x = pure x := by intro _; rfl) : DE X f δ (.ListComp elt [⟨tg, iter, ifs, 0⟩] scope pos) Ψ :=
  DE.of (pe_lc (own := own) B.calm B.ndX h.h (by rw [B.eN, B.eS]; exact ok) (fun _ _ _ _ _ => bG_ok B) (fun _ _ _ _ _ => bT_ok B) (fun _ _ _ _ _ => bE_ok B) hs) (lc_read hp)
/-- y = [..] on one line -/
theorem ds_setLc {own : List (Str × Nat)} {i : Nat} {y : Str} {py spos : Pos} (B : Bd X N sc) (hi : Sl N i y) (hy : Nm sc y .local) (hu : Unp f i) (hsw : swapsWith (.ListComp elt [⟨tg, iter, ifs, 0⟩] scope pos) (some (.Name y py)) spos.line X.env = pure true) (ok : BlkOk N sc scope own) (hp : ∀ j ∈ own.map (·.2), Unp f j)
    (h : DI X f δ tg iter (LcOk X N (rl scope sc) f tg elt ifs (own.map (·.2)) fun r δ1 => ∃ d δ2, Take δ1 r d δ2 ∧ Φ.nx (δ2.set i (some d)))) (hs : ∀ x, foldedSetIterable iter X.env x = pure x := by intro _; rfl) : DS X f δ (.Assign [.Name y py] (.ListComp elt [⟨tg, iter, ifs, 0⟩] scope pos) spos) Φ :=
  DS.of (ps_setLc (own := own) B.calm B.ndX (B.ix hi) (by rw [B.eS]; exact hy) hsw h.h (by rw [B.eN, B.eS]; exact ok) (fun _ _ _ _ _ => bG_ok B) (fun _ _ _ _ _ => bT_ok B) (fun _ _ _ _ _ => bE_ok B) hs) fun E σ H ⟨T, R, n, r, b, c⟩ =>
    lc_read hp σ H _ ⟨tv T, R, fun r δ1 v H1 ⟨d, δ2, t, k⟩ R1 => n _ _ _ k ((t.rp R1).store hu tv_ns)⟩
end
end Dl

namespace Dl
open PySem L2

/-! ### displays -/
inductive Takes : Env → List Rs → List D → Env → Prop
  | nil {δ : Env} : Takes δ [] [] δ
  | cons {δ δ1 δ2 : Env} {r : Rs} {d : D} {rs : List Rs} {ds : List D} : Take δ r d δ1 → Takes δ1 rs ds δ2 → Takes δ (r :: rs) (d :: ds) δ2
section
variable {K : PySem.W.Frag} {f : Fm} {H : Hp} {σ : St} {T : List (V × Rs)}
theorem Takes.len {δ δ' : Env} {rs : List Rs} {ds : List D} (t : Takes δ rs ds δ') : rs.length = ds.length := by
  induction t with
  | nil => rfl
  | cons _ _ ih => simp [ih]
theorem Takes.rp {δ δ' : Env} {rs : List Rs} {ds : List D} (t : Takes δ rs ds δ') : ∀ {vs : List V} {T : List (V × Rs)}, vs.length = rs.length → Rp K f H σ δ (vs.zip rs ++ T) → Rp K f H σ δ' (vs.zip (ds.map Rs.v) ++ T) := by
  induction t with
  | nil =>
    intro vs T hl R
    cases vs with
    | nil => exact R
    | cons _ _ => cases hl
  | cons t1 _ ih =>
    intro vs T hl R
    cases vs with
    | nil => cases hl
    | cons v vs =>
      have R1 := t1.rp (T := vs.zip _ ++ T) R
      have R2 := ih (T := (v, _) :: T) (by simpa using hl) (R1.perm List.perm_middle.symm)
      exact R2.perm List.perm_middle
theorem zip_tc : ∀ (vs : List V) (ds : List D), (vs.zip (ds.map Rs.v)).map tc = vs.zip ds
  | [], _ => rfl
  | _ :: _, [] => rfl
  | v :: vs, d :: ds => congrArg ((v, d) :: ·) (zip_tc vs ds)
end
section
variable {X : Cx} {f : Fm} {δ : Env} {e a b c : Expr} {es rest : List Expr} {st : Stmt} {sts : List Stmt} {pos p2 : Pos} {Ψ : Rs → Env → Prop} {Θ : Bool → Env → Prop} {Λ : List Rs → Env → Prop} {Φ : Ph}
variable {N : List Str} {sc : Scope} {Pr : Program} {w : World} {K : PySem.W.Frag} {mg : Str → Option Value} {base : Heap}
theorem de_tup {x1} (h : DA X f δ es fun rs δ1 => ∃ ds δ2, Takes δ1 rs ds δ2 ∧ ds.length ≤ sizeLine ∧ Ψ (.v (.tup ds)) δ2) : DE X f δ (.Tuple es x1 pos) Ψ :=
  DE.of (pe_tup h.h) fun σ H Q ⟨T, R, q⟩ => ⟨T, R, fun rs δ1 vs H1 ⟨ds, δ2, t, hz, k⟩ hl R1 => ⟨by rw [hl, t.len]; exact hz, fun p hp => q _ _ _ _ k (Rp.node (cs := vs.zip (ds.map Rs.v)) (t.rp hl R1) hp (show SqT X.K (upd H1 p _) p vs from SqT.of upd_same) (hl.trans t.len) fun F s => by rw [zip_tc] at s; exact s)⟩⟩
theorem de_list (h : DA X f δ es fun rs δ1 => ∃ ds δ2, Takes δ1 rs ds δ2 ∧ ds.length ≤ sizeLine ∧ Ψ (.v (.lst ds)) δ2) : DE X f δ (.List es pos) Ψ :=
  DE.of (pe_lst h.h) fun σ H Q ⟨T, R, q⟩ => ⟨T, R, fun rs δ1 vs H1 ⟨ds, δ2, t, hz, k⟩ hl R1 => ⟨by rw [hl, t.len]; exact hz, fun p hp => q _ _ _ _ k (Rp.node (cs := vs.zip (ds.map Rs.v)) (t.rp hl R1) hp (show upd H1 p _ p = _ from upd_same) (hl.trans t.len) fun F s => by rw [zip_tc] at s; exact s)⟩⟩
/-! ### slices -/
def tO (K : PySem.W.Frag) (f : Fm) (δ : Env) (Ψ : Option Int → Env → Prop) : TO := fun σ H Q => ∃ T, Rp K f H σ δ T ∧ ∀ o δ' H', Ψ o δ' → Rp K f H' σ δ' T → Q o H'
structure DO (X : Cx) (f : Fm) (δ : Env) (e : Option Expr) (Ψ : Option Int → Env → Prop) : Prop where
  h : PO X e (tO X.K f δ Ψ)
def uO (X : Cx) (f : Fm) (e : Option Expr) : TO := fun σ H Q => ∃ δ Ψ, DO X f δ e Ψ ∧ tO X.K f δ Ψ σ H Q
theorem po_u {e : Option Expr} : PO X e (uO X f e) := ⟨fun pins s σ H Q I ⟨_, _, h, q⟩ => h.h.run pins s σ H Q I q⟩
theorem do_none {Ω : Option Int → Env → Prop} (k : Ω none δ) : DO X f δ none Ω := ⟨⟨fun pins s σ H Q I ⟨T, R, q⟩ => po_none.run pins s σ H Q I (q none δ H k R)⟩⟩
theorem do_some {Ω : Option Int → Env → Prop} (h : DE X f δ e fun r δ1 => ∃ i, r = .v (.int i) ∧ Ω (some i) δ1) : DO X f δ (some e) Ω := ⟨⟨fun pins s σ H Q I ⟨T, R, q⟩ => (po_some h.h).run pins s σ H Q I ⟨T, R, fun r δ1 v H1 ⟨i, e, k⟩ R1 => by
  subst e
  cases R1.vint (v := v) (i := i) (by simp)
  exact ⟨i, rfl, q _ _ _ k R1.tail⟩⟩⟩⟩
def cutA {α : Type} (xs : List α) (lo hi : Option Int) : List α := (xs.drop (HT.sIx xs.length 0 lo)).take (HT.sIx xs.length xs.length hi - HT.sIx xs.length 0 lo)
theorem cutA_V (xs : List V) (lo hi : Option Int) : cutV xs lo hi = cutA xs lo hi := rfl
theorem zip_drop {vs : List V} {ds : List D} : ∀ {vs : List V} {ds : List D} {n : Nat}, (vs.drop n).zip (ds.drop n) = (vs.zip ds).drop n
  | vs, ds, 0 => rfl
  | [], ds, n + 1 => by simp
  | v :: vs, [], n + 1 => by simp
  | v :: vs, d :: ds, n + 1 => by
    show (vs.drop n).zip (ds.drop n) = (vs.zip ds).drop n
    exact zip_drop (vs := []) (ds := [])
theorem zip_take {vs : List V} {ds : List D} : ∀ {vs : List V} {ds : List D} {n : Nat}, (vs.take n).zip (ds.take n) = (vs.zip ds).take n
  | vs, ds, 0 => rfl
  | [], ds, n + 1 => by simp
  | v :: vs, [], n + 1 => by simp
  | v :: vs, d :: ds, n + 1 => congrArg ((v, d) :: ·) (zip_take (vs := []) (ds := []))
theorem cutA_zip {vs : List V} {ds : List D} (h : vs.length = ds.length) (lo hi : Option Int) : (cutA vs lo hi).zip (cutA ds lo hi) = cutA (vs.zip ds) lo hi := by
  unfold cutA
  have e : (vs.zip ds).length = vs.length := by simp [h]
  rw [e, ← h]
  rw [zip_take (vs := []) (ds := []), zip_drop (vs := []) (ds := [])]
theorem cutA_len {α β : Type} {vs : List α} {ds : List β} (h : vs.length = ds.length) (lo hi : Option Int) : (cutA vs lo hi).length = (cutA ds lo hi).length := by
  unfold cutA
  simp [h]
theorem cutA_mem {α : Type} {xs : List α} {lo hi : Option Int} {x : α} (h : x ∈ cutA xs lo hi) : x ∈ xs := List.mem_of_mem_drop (List.mem_of_mem_take h)
theorem cutA_all {α : Type} {xs : List α} {lo hi : Option Int} (h : HT.sIx xs.length 0 lo = 0 ∧ HT.sIx xs.length xs.length hi = xs.length) : cutA xs lo hi = xs := by
  unfold cutA
  rw [h.1, h.2]
  simp
def rSlD (K : PySem.W.Frag) : V → Option Int → Option Int → Hp → VK → Prop := fun x lo hi H Q => (rSlL K x lo hi H Q ∨ rSlA K x lo hi H Q) ∨ rSlS x lo hi H Q
theorem sl_D : SlR X (rSlD X.K) := SlR.or (SlR.or sl_list sl_tupA) sl_str
inductive SlS (δ : Env) : Rs → Option Int → Option Int → (D → Prop) → Prop
  | lst {r : Rs} {ds : List D} {l u : Option Int} {P : D → Prop} : rsv δ r = some (.lst ds) → (∀ x ∈ ds, Imm x) → P (.lst (cutA ds l u)) → SlS δ r l u P
  | fz {r : Rs} {ds : List D} {l u : Option Int} {P : D → Prop} : rsv δ r = some (.fz ds) → (∀ x ∈ ds, Imm x) → P (.lst (cutA ds l u)) → SlS δ r l u P
  | tup {r : Rs} {ds : List D} {l u : Option Int} {P : D → Prop} : rsv δ r = some (.tup ds) → (∀ x ∈ ds, Imm x) → P (.tup (cutA ds l u)) → SlS δ r l u P
  | str {z : Str} {l u : Option Int} {P : D → Prop} : z.length ≤ sizeLine → P (.str (cutS z l u)) → SlS δ (.v (.str z)) l u P
theorem de_slice {lo hi : Option Expr} (h : DE X f δ e fun r δ1 => DO X f δ1 lo fun l δ2 => DO X f δ2 hi fun u δ3 => SlS δ3 r l u fun d => Ψ (.v d) δ3) : DE X f δ (.Subscript e (.Slice lo hi none p2) pos) Ψ :=
  DE.of (pe_slice sl_D h.h (po_u (f := f)) (po_u (f := f))) fun σ H Q ⟨T, R, q⟩ => ⟨T, R, fun r δ1 v H1 k1 R1 => ⟨δ1, _, k1, _, R1, fun l δ2 H2 k2 R2 => ⟨δ2, _, k2, _, R2, fun u δ3 H3 k3 R3 => by
    have lstcase : ∀ {d : D} {ds : List D} {p : Addr} {vs : List V} {F : Fp}, SqL X.K H3 p vs → vs.length = ds.length → Sep (OwnE X.K H3) (vs.zip ds) F → (∀ x ∈ ds, Imm x) → Ψ (.v (.lst (cutA ds l u))) δ3 → ∀ p', H3 p' = none → Q (.ref p') (upd H3 p' (.lst (cutV vs l u))) := by
      intro d ds p vs F hs hl s hi k p' hp
      refine q _ _ _ _ k (R3.tail.newI hp (show upd H3 p' _ p' = _ from upd_same) (cutA_len hl l u) fun c m => ?_)
      have m' : c ∈ (cutA vs l u).zip (cutA ds l u) := m
      rw [cutA_zip hl] at m'
      exact sep_imm s hi c (cutA_mem m')
    cases k3 with
    | @lst r ds _ _ _ h1 h2 k =>
      obtain ⟨F, o⟩ := R3.res (v := v) (r := r) (by simp) h1
      obtain ⟨p, vs, rfl, e1, l1, F1, s1⟩ := own_lst o
      exact .inl (.inl ⟨p, vs, rfl, SqL.of e1, lstcase (d := .non) (SqL.of e1) l1 s1 h2 k⟩)
    | @fz r ds _ _ _ h1 h2 k =>
      obtain ⟨F, o⟩ := R3.res (v := v) (r := r) (by simp) h1
      obtain ⟨p, vs, rfl, e1, l1, F1, s1⟩ := own_fz o
      exact .inl (.inl ⟨p, vs, rfl, e1, lstcase (d := .non) e1 l1 s1 h2 k⟩)
    | @tup r ds _ _ _ h1 h2 k =>
      obtain ⟨F, o⟩ := R3.res (v := v) (r := r) (by simp) h1
      have im : Imm (.tup ds) := imm_tup h2
      obtain ⟨p, vs, rfl, e1, l1, F1, s1⟩ := own_tup o
      refine .inl (.inr ⟨p, vs, rfl, e1, fun hw => ?_, fun hw p' hp => ?_⟩)
      · rw [l1] at hw
        rw [cutA_all hw] at k
        exact q _ _ _ _ k (R3.tail.pushI o im)
      · refine q _ _ _ _ k (R3.tail.newI hp (show SqT X.K (upd H3 p' _) p' _ from SqT.of upd_same) (cutA_len l1 l u) fun c m => ?_)
        have m' : c ∈ (cutA vs l u).zip (cutA ds l u) := m
        rw [cutA_zip l1] at m'
        exact sep_imm s1 h2 c (cutA_mem m')
    | @str z _ _ _ h1 k =>
      cases R3.vstr (v := v) (i := z) (by simp)
      exact .inr ⟨z, rfl, h1, q _ _ _ _ k (R3.tail.pushL rfl)⟩⟩⟩⟩

/-! ### methods of a list that stands in a slot (or is new) -/
def IsLst (δ : Env) (r : Rs) : Prop := ∃ ds, rsv δ r = some (.lst ds)
theorem tyV_lst {r : Rs} {σ : St} {H : Hp} {T : List (V × Rs)} {v : V} {f : Fm} (R : Rp K f H σ δ ((v, r) :: T)) (h : IsLst δ r) : tyV K "list" v H := by
  obtain ⟨ds, h⟩ := h
  obtain ⟨F, o⟩ := R.res (v := v) (r := r) (by simp) h
  obtain ⟨p, vs, rfl, e1, _⟩ := own_lst o
  exact .inl ⟨rfl, vs, SqL.of e1⟩
theorem Rp.pushAll {σ : St} {H : Hp} {f : Fm} {T : List (V × Rs)} : ∀ {vs : List V} {ds : List D}, Rp K f H σ δ T → (∀ c ∈ vs.zip ds, OwnE K H c.1 c.2 fun _ => False) → (∀ d ∈ ds, Imm d) → Rp K f H σ δ (vs.zip (ds.map Rs.v) ++ T)
  | [], _, R, _, _ => R
  | _ :: _, [], R, _, _ => R
  | v :: vs, d :: ds, R, h, i => (Rp.pushAll (vs := vs) (ds := ds) R (fun c m => h c (List.mem_cons_of_mem _ m)) fun d m => i d (List.mem_cons_of_mem _ m)).pushI (h (v, d) List.mem_cons_self) (i d List.mem_cons_self)
/-- a change of the list that stands in slot j, by what the heap does -/
theorem Rp.lstChange {σ : St} {H : Hp} {T : List (V × Rs)} {v : V} {f : Fm} {j : Nat} {ds : List D} {cs : List (V × Rs)} (R : Rp K f H σ δ (cs ++ T)) (e : σ[j]? = some (some v)) (h : δ[j]? = some (some (.lst ds))) :
    ∃ p vs, v = .ref p ∧ H p = some (.lst vs) ∧ vs.length = ds.length ∧ ∀ (vs' : List V) (ds' : List D), vs'.length = ds'.length → (∀ R F, Sep R (vs.zip ds ++ cs.map tc) F → Sep R (vs'.zip ds') F) →
      Rp K f (upd H p (.lst vs')) σ (δ.set j (some (.lst ds'))) T := by
  obtain ⟨w', ew, R5⟩ := R.out h
  rw [e] at ew
  cases ew
  obtain ⟨F, o⟩ := R5.res (v := v) (r := .v (.lst ds)) (by simp) rfl
  obtain ⟨l, vs, rfl, e1, l1, _⟩ := own_lst o
  obtain ⟨vs', n1, l2, ch⟩ := Rp.change (cs := cs) (T := T) R5 rfl
  have ev : vs' = vs := by
    have := (show H l = some (.lst vs') from n1).symm.trans e1
    cases this; rfl
  subst ev
  refine ⟨l, vs', rfl, e1, l1, fun ws es hl hk => ?_⟩
  have R6 := ch (.lst ws) (.lst es) ws (show upd H l _ l = _ from upd_same) rfl hl (fun F s => hk _ F s) (fun o u q => by rw [e1] at q; cases q)
  have R7 := R6.back (i := j) e
  rw [List.set_set] at R7
  exact R7
/-- xs.append(e) -/
inductive AppS (δ : Env) : Rs → D → (Env → Prop) → Prop
  | s {j : Nat} {ds : List D} {d : D} {P : Env → Prop} : δ[j]? = some (some (.lst ds)) → ds.length < sizeLine → P (δ.set j (some (.lst (ds ++ [d])))) → AppS δ (.s j) d P
theorem de_append {o : Expr} {ap : Pos} (h : DE X f δ o fun ro δ1 => IsLst δ1 ro ∧ DA X f δ1 [e] fun rs δ2 => ∃ r d δ3, rs = [r] ∧ Take δ2 r d δ3 ∧ AppS δ3 ro d fun δ4 => Ψ (.v .non) δ4)
    (hbase : attributeBase o "append" X.env (eval o X.env) = eval o X.env := by rfl) (hline : (ap.endLine == pos.line) = true := by rfl) (hs : starEach [e] X.env = (false, eval e X.env) :: starEach [] X.env := by rfl)
    (hfew : ((backTo pos (starEach [e] X.env)).all (fun x => !x.1) && (backToKw pos (keywordEach [] X.env)).all (fun x => x.1.isSome) && decide (([e] : List Expr).length + ([] : List Keyword).length + (if ([] : List Keyword).isEmpty then 0 else 1) < 30)) = true := by rfl) :
    DE X f δ (.Call (.Attribute o "append" ap) [e] [] pos) Ψ :=
  DE.of (pe_bm PySem.F.plainAttrs_list PySem.F.slot_list_append PySem.F.type_list_append mt_append h.h (pa_u (f := f)) hbase hfew hline hs) fun σ H Q ⟨T, R, q⟩ => ⟨T, R, fun ro δ1 v H1 ⟨il, k1⟩ R1 => ⟨tyV_lst R1 il, δ1, _, k1, _, R1, fun rs δ2 vs H2 ⟨r, d, δ3, er, tk, k3⟩ hl R2 => by
    obtain ⟨u, eu, ez⟩ := one_of (T := (v, ro) :: T) er hl
    subst eu
    rw [ez] at R2
    have R3 := tk.rp R2
    cases k3 with
    | @s j ds d _ hj hz k =>
      have ev := R3.tmp (v, Rs.s j) (by simp) j rfl
      have R4 : Rp X.K f H2 σ δ3 ([(u, Rs.v d)] ++ T) := (R3.perm (List.Perm.swap _ _ _)).tail
      obtain ⟨p, ws, rfl, e1, l1, ch⟩ := R4.lstChange ev hj
      refine ⟨p, ws, u, rfl, rfl, e1, by omega, q _ _ _ _ k (Rp.pushL (ch (ws ++ [u]) (ds ++ [d]) (by simp [l1]) fun R F s => ?_) rfl)⟩
      rw [zip_app l1]
      exact s⟩⟩
/-- xs.extend(ys) -/
inductive ExtS (δ : Env) : Rs → Rs → (Env → Prop) → Prop
  | s {j : Nat} {ds es : List D} {r : Rs} {P : Env → Prop} : δ[j]? = some (some (.lst ds)) → rsv δ r = some (.lst es) → (∀ x ∈ es, Imm x) → ds.length + es.length ≤ sizeLine → P (δ.set j (some (.lst (ds ++ es)))) → ExtS δ (.s j) r P
theorem de_extend {o : Expr} {ap : Pos} (h : DE X f δ o fun ro δ1 => IsLst δ1 ro ∧ DA X f δ1 [e] fun rs δ2 => ∃ r, rs = [r] ∧ ExtS δ2 ro r fun δ4 => Ψ (.v .non) δ4)
    (hbase : attributeBase o "extend" X.env (eval o X.env) = eval o X.env := by rfl) (hline : (ap.endLine == pos.line) = true := by rfl) (hs : starEach [e] X.env = (false, eval e X.env) :: starEach [] X.env := by rfl)
    (hfew : ((backTo pos (starEach [e] X.env)).all (fun x => !x.1) && (backToKw pos (keywordEach [] X.env)).all (fun x => x.1.isSome) && decide (([e] : List Expr).length + ([] : List Keyword).length + (if ([] : List Keyword).isEmpty then 0 else 1) < 30)) = true := by rfl) :
    DE X f δ (.Call (.Attribute o "extend" ap) [e] [] pos) Ψ :=
  DE.of (pe_bm PySem.F.plainAttrs_list PySem.F.slot_list_extend PySem.F.type_list_extend mt_extend h.h (pa_u (f := f)) hbase hfew hline hs) fun σ H Q ⟨T, R, q⟩ => ⟨T, R, fun ro δ1 v H1 ⟨il, k1⟩ R1 => ⟨tyV_lst R1 il, δ1, _, k1, _, R1, fun rs δ2 vs H2 ⟨r, er, k3⟩ hl R2 => by
    obtain ⟨u, eu, ez⟩ := one_of (T := (v, ro) :: T) er hl
    subst eu
    rw [ez] at R2
    cases k3 with
    | @s j ds es _ _ hj hr him hz k =>
      have ev := R2.tmp (v, Rs.s j) (by simp) j rfl
      obtain ⟨F, o⟩ := R2.res (v := u) (r := r) (by simp) hr
      obtain ⟨b, zs, rfl, e2, l2, F2, s2⟩ := own_lst o
      have R3 := Rp.pushAll R2.tail2 (sep_imm s2 him) him
      obtain ⟨p, ws, rfl, e1, l1, ch⟩ := Rp.lstChange R3 ev hj
      refine ⟨p, b, ws, zs, rfl, rfl, e1, e2, by omega, q _ _ _ _ k (Rp.pushL (ch (ws ++ zs) (ds ++ es) (by simp [l1, l2]) fun R F s => ?_) rfl)⟩
      rw [zip_tc] at s
      rw [zip_app l1]
      exact s⟩⟩
end
end Dl

namespace Dl
open PySem L2

/-! ### data that == compares -/
mutual
def toPd : D → PyData
  | .non => .none
  | .bl b => .bool b
  | .int i => .int i
  | .str s => .str s
  | .tup xs => .tuple (toPds xs)
  | .lst xs => .list (toPds xs)
  | .fz xs => .list (toPds xs)
  | _ => .none
def toPds : List D → List PyData
  | [] => []
  | x :: xs => toPd x :: toPds xs
end
mutual
def pdOk : D → Bool
  | .non => true
  | .bl _ => true
  | .int _ => true
  | .str _ => true
  | .tup xs => pdOks xs
  | .lst xs => pdOks xs
  | .fz xs => pdOks xs
  | _ => false
def pdOks : List D → Bool
  | [] => true
  | x :: xs => pdOk x && pdOks xs
end
section
variable {K : PySem.W.Frag} {H : Hp}
mutual
theorem own_dp : ∀ (d : D) (v : V) (F : Fp), pdOk d = true → OwnE K H v d F → Dp K H v (toPd d)
  | .non, v, F, _, o => by rw [o.of_non]; exact .non
  | .bl b, v, F, _, o => by rw [o.of_bl]; exact .bl b
  | .int i, v, F, _, o => by rw [o.of_int]; exact .int i
  | .str s, v, F, _, o => by rw [o.of_str]; exact .str s
  | .tup xs, v, F, h, o => by
    obtain ⟨a, vs, rfl, h1, h2, F', s⟩ := own_tup o
    exact .tup h1 (own_dps xs vs F' (by unfold pdOk at h; exact h) h2 s)
  | .lst xs, v, F, h, o => by
    obtain ⟨a, vs, rfl, h1, h2, F', s⟩ := own_lst o
    exact .lst (SqL.of h1) (own_dps xs vs F' (by unfold pdOk at h; exact h) h2 s)
  | .fz xs, v, F, h, o => by
    obtain ⟨a, vs, rfl, h1, h2, F', s⟩ := own_fz o
    exact .lst h1 (own_dps xs vs F' (by unfold pdOk at h; exact h) h2 s)
  | .opq _, _, _, h, _ => by unfold pdOk at h; cases h
  | .dK _, _, _, h, _ => by unfold pdOk at h; cases h
  | .dT _, _, _, h, _ => by unfold pdOk at h; cases h
  | .lkK _, _, _, h, _ => by unfold pdOk at h; cases h
  | .lkT _, _, _, h, _ => by unfold pdOk at h; cases h
  | .obj _ _, _, _, h, _ => by unfold pdOk at h; cases h
  | .tg _ _, _, _, h, _ => by unfold pdOk at h; cases h
theorem own_dps : ∀ (xs : List D) (vs : List V) (F : Fp), pdOks xs = true → vs.length = xs.length → Sep (OwnE K H) (vs.zip xs) F → DpAll K H vs (toPds xs)
  | [], [], _, _, _, _ => by unfold toPds; exact .nil
  | x :: xs, v :: vs, F, h, hl, s => by
    unfold pdOks at h
    rw [Bool.and_eq_true] at h
    obtain ⟨F1, F2, s1, s2, _⟩ := s
    unfold toPds
    exact .cons (own_dp x v F1 h.1 s1) (own_dps xs vs F2 h.2 (by simpa using hl) s2)
  | [], _ :: _, _, _, hl, _ => nomatch hl
  | _ :: _, [], _, _, hl, _ => nomatch hl
end
end
/-- data that may be compared, at most n deep -/
structure Shp (n : Nat) (d : D) : Prop where
  ok : pdOk d = true
  lay : PyData.canLay0 (toPd d) = true
  dep : PyData.depth (toPd d) ≤ n
theorem Shp.mono {n m : Nat} {d : D} (h : Shp n d) (l : n ≤ m) : Shp m d := ⟨h.ok, h.lay, Nat.le_trans h.dep l⟩
theorem Shp.shaped {n : Nat} {d : D} (h : Shp n d) (l : n ≤ 64) : SeqAt.shaped (toPd d) = true := by
  unfold SeqAt.shaped
  rw [h.lay]
  exact decide_eq_true (Nat.le_trans h.dep l)
theorem shp_int {n : Nat} {i : Int} : Shp n (.int i) := ⟨rfl, rfl, Nat.zero_le _⟩
theorem shp_bl {n : Nat} {i : Bool} : Shp n (.bl i) := ⟨rfl, rfl, Nat.zero_le _⟩
theorem shp_non {n : Nat} : Shp n .non := ⟨rfl, rfl, Nat.zero_le _⟩
theorem shp_str {n : Nat} {s : Str} (h : PyData.canLay0 (.str s) = true) : Shp n (.str s) := ⟨rfl, h, Nat.zero_le _⟩
theorem shp_all {n : Nat} : ∀ {xs : List D}, (∀ x ∈ xs, Shp n x) → pdOks xs = true ∧ PyData.canLayAll0 (toPds xs) = true ∧ PyData.depthAll (toPds xs) ≤ n
  | [], _ => ⟨rfl, rfl, Nat.zero_le _⟩
  | x :: xs, h => by
    obtain ⟨h1, h2, h3⟩ := shp_all (xs := xs) fun y m => h y (List.mem_cons_of_mem _ m)
    have hx := h x List.mem_cons_self
    refine ⟨?_, ?_, ?_⟩
    · unfold pdOks; rw [hx.ok, h1]; rfl
    · unfold toPds PyData.canLayAll0; rw [hx.lay, h2]; rfl
    · unfold toPds PyData.depthAll; exact Nat.max_le.mpr ⟨hx.dep, h3⟩
theorem shp_tup {n : Nat} {xs : List D} (h : ∀ x ∈ xs, Shp n x) : Shp (n + 1) (.tup xs) := by
  obtain ⟨h1, h2, h3⟩ := shp_all h
  exact ⟨by unfold pdOk; exact h1, by unfold toPd PyData.canLay0; exact h2, by unfold toPd PyData.depth; omega⟩
theorem shp_lst {n : Nat} {xs : List D} (h : ∀ x ∈ xs, Shp n x) : Shp (n + 1) (.lst xs) := by
  obtain ⟨h1, h2, h3⟩ := shp_all h
  exact ⟨by unfold pdOk; exact h1, by unfold toPd PyData.canLay0; exact h2, by unfold toPd PyData.depth; omega⟩
/-- == of data -/
def eqD (d e : D) : Bool := PyData.eqv (toPd d) (toPd e)
section
variable {X : Cx} {f : Fm} {δ : Env} {e a b c : Expr} {es rest : List Expr} {st : Stmt} {sts : List Stmt} {pos p2 : Pos} {Ψ : Rs → Env → Prop} {Θ : Bool → Env → Prop} {Λ : List Rs → Env → Prop} {Φ : Ph}
variable {N : List Str} {sc : Scope} {Pr : Program} {w : World} {K : PySem.W.Frag} {mg : Str → Option Value} {base : Heap} {k n m : Nat}
inductive EqS (δ : Env) : Rs → Rs → (Bool → Prop) → Prop
  | mk {ra rb : Rs} {da db : D} {n m : Nat} {P : Bool → Prop} : rsv δ ra = some da → rsv δ rb = some db → Shp n da → Shp m db → n ≤ 64 → m ≤ 64 → P (eqD da db) → EqS δ ra rb P
theorem cmp_eqD (hr : Room k X.A) : CmpOk X f .Eq fun δ ra rb P => EqS δ ra rb P :=
  ⟨_, op_eqD hr.units, fun δ ra rb P h H σ T x y Q R q => by
    cases h with
    | mk h1 h2 s1 s2 l1 l2 k =>
      obtain ⟨F1, o1⟩ := R.res (v := x) (r := ra) (by simp) h1
      obtain ⟨F2, o2⟩ := R.res (v := y) (r := rb) (by simp) h2
      exact ⟨_, _, own_dp _ _ _ s1.ok o1, own_dp _ _ _ s2.ok o2, s1.shaped l1, s2.shaped l2, q (.bl _) _ _ ⟨_, rfl, k⟩ (R.tail2.pushL rfl)⟩⟩
theorem cmp_neD (hr : Room k X.A) : CmpOk X f .NotEq fun δ ra rb P => EqS δ ra rb fun b => P (!b) :=
  ⟨_, op_neD hr.units, fun δ ra rb P h H σ T x y Q R q => by
    cases h with
    | mk h1 h2 s1 s2 l1 l2 k =>
      obtain ⟨F1, o1⟩ := R.res (v := x) (r := ra) (by simp) h1
      obtain ⟨F2, o2⟩ := R.res (v := y) (r := rb) (by simp) h2
      exact ⟨_, _, own_dp _ _ _ s1.ok o1, own_dp _ _ _ s2.ok o2, s1.shaped l1, s2.shaped l2, q (.bl _) _ _ ⟨_, rfl, k⟩ (R.tail2.pushL rfl)⟩⟩
theorem dt_eqD (hr : Room k X.A) (h : DE X f δ a fun ra δ1 => DE X f δ1 b fun rb δ2 => EqS δ2 ra rb fun t => Θ t δ2) : DT X f δ (.Compare a [.Eq] [b] pos) Θ := dt_cmp (cmp_eqD hr) h (nomark _)
theorem de_eqD (hr : Room k X.A) (h : DE X f δ a fun ra δ1 => DE X f δ1 b fun rb δ2 => EqS δ2 ra rb fun t => Ψ (.v (.bl t)) δ2) : DE X f δ (.Compare a [.Eq] [b] pos) Ψ := de_cmp (cmp_eqD hr) h (nomark _)
theorem dt_neD (hr : Room k X.A) (h : DE X f δ a fun ra δ1 => DE X f δ1 b fun rb δ2 => EqS δ2 ra rb fun t => Θ (!t) δ2) : DT X f δ (.Compare a [.NotEq] [b] pos) Θ := dt_cmp (cmp_neD hr) h (nomark _)
theorem de_neD (hr : Room k X.A) (h : DE X f δ a fun ra δ1 => DE X f δ1 b fun rb δ2 => EqS δ2 ra rb fun t => Ψ (.v (.bl (!t))) δ2) : DE X f δ (.Compare a [.NotEq] [b] pos) Ψ := de_cmp (cmp_neD hr) h (nomark _)
/-! ### in -/
def leafs : List D → Option (List V)
  | [] => some []
  | d :: ds => match leaf d, leafs ds with
    | some v, some vs => some (v :: vs)
    | _, _ => none
theorem leafs_own {H : Hp} : ∀ {ds : List D} {vs us : List V} {F : Fp}, leafs ds = some us → vs.length = ds.length → Sep (OwnE K H) (vs.zip ds) F → vs = us
  | [], [], us, F, h, _, _ => by cases h; rfl
  | d :: ds, v :: vs, us, F, h, hl, s => by
    unfold leafs at h
    cases e1 : leaf d with
    | none => rw [e1] at h; cases h
    | some x =>
      cases e2 : leafs ds with
      | none => rw [e1, e2] at h; cases h
      | some ys =>
        rw [e1, e2] at h
        cases h
        obtain ⟨F1, F2, s1, s2, _⟩ := s
        rw [OwnE.of_leaf e1 s1, leafs_own e2 (by simpa using hl) s2]
  | [], _ :: _, _, _, _, hl, _ => nomatch hl
  | _ :: _, [], _, _, _, hl, _ => nomatch hl
inductive InS (δ : Env) : Rs → Rs → (Bool → Prop) → Prop
  | flat {ra rb : Rs} {da db : D} {x : V} {ds : List D} {vs : List V} {P : Bool → Prop} : rsv δ ra = some da → leaf da = some x → rsv δ rb = some db → itemsOf db = some ds → leafs ds = some vs → flatV x = true → vs.all flatV = true → P (inV x vs) → InS δ ra rb P
  | sign {c : Nat} {z : Str} {P : Bool → Prop} : P (decide (c ∈ z.cps.toList)) → InS δ (.v (.str ⟨#[c]⟩)) (.v (.str z)) P
  | deep {ra rb : Rs} {da : D} {ds : List D} {n m : Nat} {P : Bool → Prop} : rsv δ ra = some da → rsv δ rb = some (.lst ds) → Shp n da → Shp m (.lst ds) → n ≤ 64 → m ≤ 64 → P (ds.any fun z => eqD z da) → InS δ ra rb P
def rInA (K : PySem.W.Frag) (neg : Bool) : R2 := fun x y H Q => rIn K neg x y H Q ∨ (∃ (c : Nat) (z : Str), x = .str ⟨#[c]⟩ ∧ y = .str z ∧ Q (.bl (if neg then !decide (c ∈ z.cps.toList) else decide (c ∈ z.cps.toList))) H)
theorem op_inA : OpR X (compareOp .In) (rInA X.K false) := OpR.or op_in_seq op_in_sign
theorem op_notInA : OpR X (compareOp .NotIn) (rInA X.K true) := OpR.or op_notIn_seq op_notIn_sign
theorem toPds_map : ∀ (ds : List D), toPds ds = ds.map toPd
  | [] => rfl
  | d :: ds => congrArg (toPd d :: ·) (toPds_map ds)
theorem InS.flatOk {ra rb : Rs} {da db : D} {x : V} {ds : List D} {vs : List V} {H : Hp} {σ : St} {T : List (V × Rs)} {u y : V} {Q : VK} {neg : Bool} (R : Rp K f H σ δ ((y, rb) :: (u, ra) :: T)) (h1 : rsv δ ra = some da) (h2 : leaf da = some x) (h3 : rsv δ rb = some db) (h4 : itemsOf db = some ds)
    (h5 : leafs ds = some vs) (h6 : flatV x = true) (h7 : vs.all flatV = true) (q : Q (.bl (if neg then !inV x vs else inV x vs)) H) : rIn K neg u y H Q := by
  obtain ⟨F1, o1⟩ := R.res (v := u) (r := ra) (by simp) h1
  obtain ⟨F2, o2⟩ := R.res (v := y) (r := rb) (by simp) h3
  have ex := o1.of_leaf h2
  subst ex
  obtain ⟨p, ws, rfl, hs, hl, F', s⟩ := own_items o2 h4
  have ev := leafs_own h5 hl s
  subst ev
  exact ⟨p, ws, rfl, hs, h6, h7, q⟩
theorem cmp_in (hr : Room k X.A) : CmpOk X f .In fun δ ra rb P => InS δ ra rb P :=
  ⟨_, OpR.or op_inA (op_inD (by have := hr.un; omega)), fun δ ra rb P h H σ T x y Q R q => by
    cases h with
    | flat h1 h2 h3 h4 h5 h6 h7 k => exact .inl (.inl (InS.flatOk R h1 h2 h3 h4 h5 h6 h7 (q (.bl _) _ _ ⟨_, rfl, k⟩ (R.tail2.pushL rfl))))
    | @sign c z _ k =>
      cases R.vstr (v := y) (i := z) (by simp)
      cases R.vstr (v := x) (i := ⟨#[c]⟩) (by simp)
      exact .inl (.inr ⟨c, z, rfl, rfl, q (.bl _) _ _ ⟨_, rfl, k⟩ (R.tail2.pushL rfl)⟩)
    | @deep _ _ da ds _ _ _ h1 h2 s1 s2 l1 l2 k =>
      obtain ⟨F1, o1⟩ := R.res (v := x) (r := ra) (by simp) h1
      obtain ⟨F2, o2⟩ := R.res (v := y) (r := rb) (by simp) h2
      refine .inr ⟨_, _, own_dp _ _ _ s1.ok o1, own_dp _ _ _ s2.ok o2, s1.shaped l1, s2.shaped l2, ?_⟩
      have e : (ds.any fun z => eqD z da) = ((toPds ds).any fun z => PyData.eqv z (toPd da)) := by rw [toPds_map, List.any_map]; rfl
      rw [← e]
      exact q (.bl _) _ _ ⟨_, rfl, k⟩ (R.tail2.pushL rfl)⟩
theorem cmp_notin (hr : Room k X.A) : CmpOk X f .NotIn fun δ ra rb P => InS δ ra rb fun b => P (!b) :=
  ⟨_, OpR.or op_notInA (op_notInD (by have := hr.un; omega)), fun δ ra rb P h H σ T x y Q R q => by
    cases h with
    | flat h1 h2 h3 h4 h5 h6 h7 k => exact .inl (.inl (InS.flatOk R h1 h2 h3 h4 h5 h6 h7 (q (.bl _) _ _ ⟨_, rfl, k⟩ (R.tail2.pushL rfl))))
    | @sign c z _ k =>
      cases R.vstr (v := y) (i := z) (by simp)
      cases R.vstr (v := x) (i := ⟨#[c]⟩) (by simp)
      exact .inl (.inr ⟨c, z, rfl, rfl, q (.bl _) _ _ ⟨_, rfl, k⟩ (R.tail2.pushL rfl)⟩)
    | @deep _ _ da ds _ _ _ h1 h2 s1 s2 l1 l2 k =>
      obtain ⟨F1, o1⟩ := R.res (v := x) (r := ra) (by simp) h1
      obtain ⟨F2, o2⟩ := R.res (v := y) (r := rb) (by simp) h2
      refine .inr ⟨_, _, own_dp _ _ _ s1.ok o1, own_dp _ _ _ s2.ok o2, s1.shaped l1, s2.shaped l2, ?_⟩
      have e : (ds.any fun z => eqD z da) = ((toPds ds).any fun z => PyData.eqv z (toPd da)) := by rw [toPds_map, List.any_map]; rfl
      rw [← e]
      exact q (.bl _) _ _ ⟨_, rfl, k⟩ (R.tail2.pushL rfl)⟩
theorem dt_in (hr : Room k X.A) (h : DE X f δ a fun ra δ1 => DE X f δ1 b fun rb δ2 => InS δ2 ra rb fun t => Θ t δ2) (hm : behindInMarks .In b = false := by rfl) : DT X f δ (.Compare a [.In] [b] pos) Θ := dt_cmp (cmp_in hr) h hm
theorem de_in (hr : Room k X.A) (h : DE X f δ a fun ra δ1 => DE X f δ1 b fun rb δ2 => InS δ2 ra rb fun t => Ψ (.v (.bl t)) δ2) (hm : behindInMarks .In b = false := by rfl) : DE X f δ (.Compare a [.In] [b] pos) Ψ := de_cmp (cmp_in hr) h hm
theorem dt_notin (hr : Room k X.A) (h : DE X f δ a fun ra δ1 => DE X f δ1 b fun rb δ2 => InS δ2 ra rb fun t => Θ (!t) δ2) (hm : behindInMarks .NotIn b = false := by rfl) : DT X f δ (.Compare a [.NotIn] [b] pos) Θ := dt_cmp (cmp_notin hr) h hm
theorem de_notin (hr : Room k X.A) (h : DE X f δ a fun ra δ1 => DE X f δ1 b fun rb δ2 => InS δ2 ra rb fun t => Ψ (.v (.bl (!t))) δ2) (hm : behindInMarks .NotIn b = false := by rfl) : DE X f δ (.Compare a [.NotIn] [b] pos) Ψ := de_cmp (cmp_notin hr) h hm
/-! ### and, or, not as values (of truths) -/
theorem de_bone {op} (h : DE X f δ a Ψ) : DE X f δ (.BoolOp op [a] pos) Ψ := ⟨pe_one h.h⟩
theorem de_and (h : DE X f δ a fun r δ1 => ∃ t, r = .v (.bl t) ∧ (t = true → DE X f δ1 (.BoolOp .And (b :: rest) pos) Ψ) ∧ (t = false → Ψ (.v (.bl false)) δ1)) : DE X f δ (.BoolOp .And (a :: b :: rest) pos) Ψ :=
  DE.of (pe_and h.h (pe_u (f := f))) fun σ H Q ⟨T, R, q⟩ => ⟨T, R, fun r δ1 v H1 ⟨t, e, k⟩ R1 => by
    subst e
    cases R1.vbl (v := v) (i := t) (by simp)
    refine ⟨t, rfl, ?_⟩
    cases t with
    | true => exact ⟨δ1, _, k.1 rfl, T, R1.tail, q⟩
    | false => exact q _ _ _ _ (k.2 rfl) (R1.tail.pushL rfl)⟩
theorem de_or (h : DE X f δ a fun r δ1 => ∃ t, r = .v (.bl t) ∧ (t = false → DE X f δ1 (.BoolOp .Or (b :: rest) pos) Ψ) ∧ (t = true → Ψ (.v (.bl true)) δ1)) : DE X f δ (.BoolOp .Or (a :: b :: rest) pos) Ψ :=
  DE.of (pe_or h.h (pe_u (f := f))) fun σ H Q ⟨T, R, q⟩ => ⟨T, R, fun r δ1 v H1 ⟨t, e, k⟩ R1 => by
    subst e
    cases R1.vbl (v := v) (i := t) (by simp)
    refine ⟨t, rfl, ?_⟩
    cases t with
    | true => exact q _ _ _ _ (k.2 rfl) (R1.tail.pushL rfl)
    | false => exact ⟨δ1, _, k.1 rfl, T, R1.tail, q⟩⟩
theorem de_not (h : DE X f δ a fun r δ1 => ∃ t, r = .v (.bl t) ∧ Ψ (.v (.bl (!t))) δ1) : DE X f δ (.UnaryOp .Not a pos) Ψ :=
  DE.of (pe_not h.h) fun σ H Q ⟨T, R, q⟩ => ⟨T, R, fun r δ1 v H1 ⟨t, e, k⟩ R1 => by
    subst e
    cases R1.vbl (v := v) (i := t) (by simp)
    exact ⟨t, rfl, q _ _ _ _ k (R1.tail.pushL rfl)⟩⟩
/-! ### conversions -/
inductive IntS : List Rs → (D → Prop) → Prop
  | int {i : Int} {P : D → Prop} : P (.int i) → IntS [.v (.int i)] P
  | bl {t : Bool} {P : D → Prop} : P (.int (if t then 1 else 0)) → IntS [.v (.bl t)] P
  | str {z : Str} {n : Int} {P : D → Prop} : PySem.intText? z = some n → z.length ≤ 640 → P (.int n) → IntS [.v (.str z)] P
theorem de_intc {p : Pos} (B : Bd X N sc) (J : Jn X Pr w K mg base) (hg : Gls sc "int") (hm : mg "int" = none) (h : DA X f δ [e] fun rs δ1 => IntS rs fun d => Ψ (.v d) δ1) (he : starEach [e] X.env = (false, eval e X.env) :: starEach [] X.env := by rfl) : DE X f δ (.Call (.Name "int" p) [e] [] pos) Ψ :=
  de_bty (CallR.or call_int1 call_int_str) B J hg hm PyProof.Rows.boot_int (he := he) (h := h.mono fun rs δ1 k => by
    cases k with
    | @int i _ k =>
        refine callOk1 fun H σ T v Q R q => ?_
        cases R.vint (v := v) (i := i) (by simp)
        exact .inl (.inl ⟨_, rfl, q _ _ _ k (R.tail.pushL rfl)⟩)
    | @bl i _ k =>
        refine callOk1 fun H σ T v Q R q => ?_
        cases R.vbl (v := v) (i := i) (by simp)
        exact .inl (.inr ⟨_, rfl, q _ _ _ k (R.tail.pushL rfl)⟩)
    | @str i n _ h1 h2 k =>
        refine callOk1 fun H σ T v Q R q => ?_
        cases R.vstr (v := v) (i := i) (by simp)
        exact .inr ⟨_, _, rfl, h1, h2, q _ _ _ k (R.tail.pushL rfl)⟩)
inductive StrS : List Rs → (D → Prop) → Prop
  | int {i : Int} {P : D → Prop} : i.natAbs.log2 < 1920 → P (.str (toString i)) → StrS [.v (.int i)] P
  | str {z : Str} {P : D → Prop} : P (.str z) → StrS [.v (.str z)] P
theorem de_strc {p : Pos} (B : Bd X N sc) (J : Jn X Pr w K mg base) (hg : Gls sc "str") (hm : mg "str" = none) (h : DA X f δ [e] fun rs δ1 => StrS rs fun d => Ψ (.v d) δ1) (he : starEach [e] X.env = (false, eval e X.env) :: starEach [] X.env := by rfl) : DE X f δ (.Call (.Name "str" p) [e] [] pos) Ψ :=
  de_bty (CallR.or call_str_int SkE.call_str_str) B J hg hm PyProof.Rows.boot_str (he := he) (h := h.mono fun rs δ1 k => by
    cases k with
    | @int i _ h1 k =>
        refine callOk1 fun H σ T v Q R q => ?_
        cases R.vint (v := v) (i := i) (by simp)
        exact .inl ⟨_, rfl, h1, q _ _ _ k (R.tail.pushL rfl)⟩
    | @str i _ k =>
        refine callOk1 fun H σ T v Q R q => ?_
        cases R.vstr (v := v) (i := i) (by simp)
        exact .inr ⟨_, rfl, q _ _ _ k (R.tail.pushL rfl)⟩)
/-- list(x), tuple(x) of what has items -/
inductive SeqC (δ : Env) : List Rs → (List D → Prop) → Prop
  | mk {r : Rs} {d : D} {ds : List D} {P : List D → Prop} : rsv δ r = some d → itemsOf d = some ds → (∀ x ∈ ds, Imm x) → P ds → SeqC δ [r] P
theorem de_listc {p : Pos} (B : Bd X N sc) (J : Jn X Pr w K mg base) (hg : Gls sc "list") (hm : mg "list" = none) (h : DA X f δ [e] fun rs δ1 => SeqC δ1 rs fun ds => Ψ (.v (.lst ds)) δ1) (he : starEach [e] X.env = (false, eval e X.env) :: starEach [] X.env := by rfl) : DE X f δ (.Call (.Name "list" p) [e] [] pos) Ψ :=
  de_bty call_list_of B J hg hm PyProof.Rows.boot_list (he := he) (h := h.mono fun rs δ1 k => by
    cases k with
    | @mk r d ds _ h1 h2 hi k =>
        refine callOk1 fun H σ T v Q R q => ?_
        obtain ⟨F, o⟩ := R.res (v := v) (r := r) (by simp) h1
        obtain ⟨p, vs, rfl, hs, hl, F', s⟩ := own_items o h2
        exact ⟨p, vs, rfl, hs, fun l hl' => q _ _ _ k (R.tail.newI hl' (show upd H l _ l = _ from upd_same) hl (sep_imm s hi))⟩)
theorem de_tuplec {p : Pos} (B : Bd X N sc) (J : Jn X Pr w K mg base) (hg : Gls sc "tuple") (hm : mg "tuple" = none) (h : DA X f δ [e] fun rs δ1 => SeqC δ1 rs fun ds => Ψ (.v (.tup ds)) δ1) (he : starEach [e] X.env = (false, eval e X.env) :: starEach [] X.env := by rfl) : DE X f δ (.Call (.Name "tuple" p) [e] [] pos) Ψ :=
  de_bty call_tuple_of B J hg hm PyProof.Rows.boot_tuple (he := he) (h := h.mono fun rs δ1 k => by
    cases k with
    | @mk r d ds _ h1 h2 hi k =>
        refine callOk1 fun H σ T v Q R q => ?_
        obtain ⟨F, o⟩ := R.res (v := v) (r := r) (by simp) h1
        cases d with
        | tup xs =>
          cases h2
          have im : Imm (.tup ds) := imm_tup hi
          obtain ⟨p, vs, rfl, hs, hl, F', s⟩ := own_tup o
          exact ⟨p, vs, rfl, .inr ⟨hs, q _ _ _ k (R.tail.pushI o im)⟩⟩
        | lst xs =>
          cases h2
          obtain ⟨p, vs, rfl, hs, hl, F', s⟩ := own_lst o
          exact ⟨p, vs, rfl, .inl ⟨SqL.of hs, fun l hl' => q _ _ _ k (R.tail.newI hl' (show SqT X.K (upd H l _) l _ from SqT.of upd_same) hl (sep_imm s hi))⟩⟩
        | fz xs =>
          cases h2
          obtain ⟨p, vs, rfl, hs, hl, F', s⟩ := own_fz o
          exact ⟨p, vs, rfl, .inl ⟨hs, fun l hl' => q _ _ _ k (R.tail.newI hl' (show SqT X.K (upd H l _) l _ from SqT.of upd_same) hl (sep_imm s hi))⟩⟩
        | _ => cases h2)
end
end Dl

namespace Dl
open PySem PySem.Spec PyProof.Rows L2

/-! ### enumerate and zip of lists, tuples and texts -/
inductive Sm where
  | L (a : Addr) | T (a : Addr) | S (z : Str)
def Sm.x : Sm → V
  | .L a => .ref a
  | .T a => .ref a
  | .S z => .str z
def Sm.at : Sm → List Addr
  | .L a => [a]
  | .T a => [a]
  | .S _ => []
def Sm.u (t : Tok) : Sm → Value
  | .L a => .ref a
  | .T a => .ref a
  | .S z => .str z t
def Sm.o (t : Tok) : Sm → Obj
  | .L a => { cls := .type "list_iterator", data := .fields #[.ref a, .int 0 0] }
  | .T a => { cls := .type "tuple_iterator", data := .fields #[.ref a, .int 0 0] }
  | .S z => { cls := .type (strIterType z), data := .fields #[.str z t, .int 0 0] }
def Sm.cur (t : Tok) (it : Addr) (i : Nat) (h : Heap) : Sm → Prop
  | .L a => h.IsListIter it a i
  | .T a => h.IsTupleIter it a i
  | .S z => h.IsStrIter it (strIterType z) z t i
def signV (z : Str) : List V := z.cps.toList.map fun c => .str ⟨#[c]⟩
def Sm.has (K : PySem.W.Frag) (H : Hp) (xs : List V) : Sm → Prop
  | .L a => SqL K H a xs
  | .T a => SqT K H a xs
  | .S z => xs = signV z
theorem Sm.rel {k : Sm} {u : Value} (r : RelV k.x u) : ∃ t, u = k.u t := by
  cases k with
  | L a => cases r; exact ⟨0, rfl⟩
  | T a => cases r; exact ⟨0, rfl⟩
  | S z => obtain ⟨t, rfl⟩ := r; exact ⟨t, rfl⟩
theorem Sm.cur_at {k : Sm} {t : Tok} {it : Addr} {i : Nat} {h h' : Heap} (c : k.cur t it i h) (q : ∀ o, h.get? it = some o → h'.get? it = some o) : k.cur t it i h' := by
  cases k with
  | L a => exact Heap.IsListIter.at c q
  | T a => exact Heap.IsTupleIter.at c q
  | S z => obtain ⟨o, ho, r⟩ := c; exact ⟨o, q o ho, r⟩
theorem Sm.cur_obj {k : Sm} {t : Tok} {it : Addr} {i : Nat} {h : Heap} (c : k.cur t it i h) : ∃ o, h.get? it = some o ∧ ∀ v, o.data ≠ .cell v := by
  cases k with
  | L a => obtain ⟨o, ho, _, hd⟩ := c; exact ⟨o, ho, fun v q => by rw [hd] at q; cases q⟩
  | T a => obtain ⟨o, ho, _, hd⟩ := c; exact ⟨o, ho, fun v q => by rw [hd] at q; cases q⟩
  | S z => obtain ⟨o, ho, _, hd⟩ := c; exact ⟨o, ho, fun v q => by rw [hd] at q; cases q⟩
theorem Sm.cur0 {k : Sm} {t : Tok} {it : Addr} {h : Heap} (q : h.get? it = some (k.o t)) : k.cur t it 0 h := by
  cases k with
  | L a => exact ⟨_, q, rfl, rfl⟩
  | T a => exact ⟨_, q, rfl, rfl⟩
  | S z => exact ⟨_, q, rfl, rfl⟩
section
variable {X : Cx} {pins : List (Addr × Obj)} {σ : L2.St} {H : Hp} {s : Shared}
theorem Sm.uniq {k : Sm} {xs ys : List V} (I : Inv X pins σ H s) (a : k.has X.K H xs) (b : k.has X.K H ys) : xs = ys := by
  cases k with
  | L p => exact I.list_inj a b
  | T p => exact I.tuple_inj a b
  | S z => exact (show xs = signV z from a).trans (show ys = signV z from b).symm
theorem Sm.lt {k : Sm} {xs : List V} (I : Inv X pins σ H s) (a : k.has X.K H xs) : ∀ b ∈ k.at, b < s.heap.objs.size := fun b m => by
  cases k with
  | L p =>
    obtain ⟨its, rv, q, _⟩ := I.list a
    have e : b = p := by simpa [Sm.at] using m
    rw [e]; exact q.lt
  | T p =>
    obtain ⟨its, rv, q, _⟩ := I.tuple a
    have e : b = p := by simpa [Sm.at] using m
    obtain ⟨o, ho, _⟩ := id (show s.heap.IsTuple p its.toArray from q)
    rw [e]; exact Heap.lt_size ho
  | S z => cases m
theorem Sm.begins {k : Sm} {xs : List V} (t : Tok) (I : Inv X pins σ H s) (a : k.has X.K H xs) : ∃ HH : Heap → Prop, Begins (k.u t) (k.o t) HH ∧ HH s.heap := by
  cases k with
  | L p =>
    obtain ⟨its, rv, q, _⟩ := I.list a
    exact ⟨_, begins_list p its.toArray, q.isList⟩
  | T p =>
    obtain ⟨its, rv, q, _⟩ := I.tuple a
    exact ⟨_, begins_tuple p its.toArray, show s.heap.IsTuple p its.toArray from q⟩
  | S z => exact ⟨_, begins_text z t, trivial⟩
theorem vals_back {xs : List V} {us : List Value} (rv : Vals xs us) {i : Nat} {u : Value} (h : us[i]? = some u) : ∃ x, xs[i]? = some x ∧ RelV x u := by
  have hl := rv.length
  have hi := (List.getElem?_eq_some_iff.mp h).1
  have hx : xs[i]? = some (xs[i]'(by omega)) := List.getElem?_eq_getElem (by omega)
  obtain ⟨u', h1, r⟩ := rv.get hx
  rw [h] at h1
  cases h1
  exact ⟨_, hx, r⟩
structure SmDraws (P : Program) (w : World) (A : Around) (k : Sm) (t : Tok) (it : Addr) (xs : List V) (Pp : Nat → Value → Prop) (Stt : Nat → Heap → Prop) (h0 : Heap) : Prop where
  d : Draws P w A it (it :: k.at) xs.length Pp Stt
  i : ∀ i, k.cur t it i h0 → Stt i h0
  o : ∀ i h, Stt i h → k.cur t it i h
  v : ∀ i u, Pp i u → ∃ x, xs[i]? = some x ∧ RelV x u
theorem Sm.draws {k : Sm} {xs : List V} {t : Tok} {it : Addr} {A : Around} (I : Inv X pins σ H s) (hq : k.has X.K H xs) (hc : A.handled = none) (hne : ∀ b ∈ k.at, b ≠ it) : ∃ Pp Stt, SmDraws X.prog X.w A k t it xs Pp Stt s.heap := by
  cases k with
  | L p =>
    obtain ⟨its, rv, q, _⟩ := I.list hq
    have hl : xs.length = its.toArray.size := by rw [List.size_toArray]; exact rv.length
    refine ⟨_, _, ⟨hl ▸ Draws.list hc it p (hne p (by simp [Sm.at])) its.toArray, fun i c => ⟨c, q.isList⟩, fun i h st => st.1, fun i u h => vals_back rv (by simpa using h)⟩⟩
  | T p =>
    obtain ⟨its, rv, q, _⟩ := I.tuple hq
    have hl : xs.length = its.toArray.size := by rw [List.size_toArray]; exact rv.length
    refine ⟨_, _, ⟨hl ▸ Draws.tuple hc it p (hne p (by simp [Sm.at])) its.toArray, fun i c => ⟨c, (show s.heap.IsTuple p its.toArray from q)⟩, fun i h st => st.1, fun i u h => vals_back rv (by simpa using h)⟩⟩
  | S z =>
    have hx : xs = signV z := hq
    subst hx
    have hl : (signV z).length = z.cps.size := by simp [signV]
    refine ⟨_, _, ⟨hl ▸ Draws.text hc it z t, fun i c => c, fun i h st => st, fun i u h => ?_⟩⟩
    obtain ⟨c, tk, h1, rfl⟩ := h
    refine ⟨.str ⟨#[c]⟩, ?_, tk, rfl⟩
    unfold signV
    rw [List.getElem?_map, Array.getElem?_toList, h1]
    rfl
end
def IteK (K : PySem.W.Frag) (k : Sm) : It :=
  ⟨fun i H => ∃ (xs : List V) (x : V), k.has K H xs ∧ xs[i]? = some x, fun i H v H' => ∃ T x, v = .ref T ∧ H T = none ∧ H' = upd H T (.tup [.int (i : Nat), x]) ∧ ∀ xs, k.has K H xs → xs[i]? = some x, fun i H => ∃ xs : List V, k.has K H xs ∧ xs.length = i⟩
theorem turn_enumK {P : Program} {w : World} {K : PySem.W.Frag} {elts : List Expr} {kk : Nat} {tpos : Pos} (k : Sm) (t : Tok) (e it : Addr) (hne : e ≠ it) (hk : ∀ b ∈ k.at, b ≠ it ∧ b ≠ e) :
    Turn P w K (.Tuple elts kk tpos) (IteK K k) [e, it] e (fun i h => (∃ old, IsEnum h e it ((i : Nat) : Int) old) ∧ k.cur t it i h) where
  mem := by simp
  obj := fun i h st b hb => by
    obtain ⟨⟨old, he⟩, hc⟩ := st
    have e' : b = e ∨ b = it := by simpa using hb
    rcases e' with z | z
    · rw [z]; exact ⟨_, he, fun v q => nomatch q⟩
    · rw [z]; exact Sm.cur_obj hc
  keep := fun i h h' st k => let ⟨⟨old, he⟩, hi⟩ := st; ⟨⟨old, k e (by simp) _ he⟩, Sm.cur_at hi fun o q => k it (by simp) o q⟩
  item := by
    intro X hP hw hK hc i pins s σ H E I hf st hg
    subst hP hw hK
    obtain ⟨⟨old, he⟩, hit⟩ := st
    obtain ⟨xs, x, hq, hx⟩ := hg
    obtain ⟨Pp, Stt, D⟩ := Sm.draws (t := t) (A := X.A.in1) I hq (I.ok.hd hc) (fun b m => (hk b m).1)
    have hlt : i < xs.length := (List.getElem?_eq_some_iff.mp hx).1
    have hel : e < s.heap.objs.size := Heap.lt_size he
    have hil : it < s.heap.objs.size := by obtain ⟨_, q, _⟩ := Sm.cur_obj hit; exact Heap.lt_size q
    have hef : e ∉ it :: k.at := fun m => (List.mem_cons.mp m).elim hne fun m => (hk e m).2 rfl
    refine wpAny_pyNext_enum_itemD D.d he (D.i i hit) hlt hne hef fun u h' tk hP ho hit' hT hsz hkk => ?_
    obtain ⟨x', hx', ru⟩ := D.v _ _ hP
    rw [hx] at hx'
    cases hx'
    refine ⟨_, rfl, wpAny_letOwnedTupleGo_enum (s := { s with heap := h', toks := tk + 1 }) ho fun h'' he' sb => ?_⟩
    have hT2 : h''.get? s.heap.objs.size = some { cls := .type "tuple", data := .seq #[.int i tk, u] } := (sb.2 _ (Nat.ne_of_gt hel)).trans hT
    have new : ObjOk X.prog X.w (upd H s.heap.objs.size (.tup [.int (i : Nat), x])) h'' s.heap.objs.size (.tup [.int (i : Nat), x]) :=
      ⟨by show 2 ≤ sizeLine; decide, [.int i tk, u], .cons ⟨_, rfl⟩ (.cons ru .nil), ⟨_, hT2, rfl, _, rfl⟩⟩
    have I1 : Inv X pins σ (upd H s.heap.objs.size (.tup [.int (i : Nat), x])) { s with heap := h'', toks := tk + 1 } :=
      I.turnedNew (ch := [e, it]) (fun b ob hb q => (sb.2 b (fun z => hb (by simp [z]))).trans (hkk b ob (fun z => hb (by simp [z])) (fun z => hb (by simp [z])) q)) hf (Nat.le_refl _) new
    refine ⟨.ref s.heap.objs.size, _, I1, rfl, ⟨_, x, rfl, I.hok.fresh (Nat.le_refl _), rfl, fun ys hy => by rw [Sm.uniq I hy hq]; exact hx⟩, ⟨⟨u, ?_⟩, Sm.cur_at (D.o _ _ hit') fun o q => (sb.2 it (Ne.symm hne)).trans q⟩, fun b hb => ?_⟩
    · have e1 : ((i + 1 : Nat) : Int) = (i : Int) + 1 := by omega
      rw [e1]; exact he'
    · have hb' : b < s.heap.objs.size := by
        have e' : b = e ∨ b = it := by simpa using hb
        rcases e' with z | z
        · rw [z]; exact hel
        · rw [z]; exact hil
      rw [upd_ne (Nat.ne_of_lt hb')]
      exact (hf b hb).1
  done := by
    intro X hP hw hK hc i pins s σ H E I hf st hg
    subst hP hw hK
    obtain ⟨⟨old, he⟩, hit⟩ := st
    obtain ⟨xs, hq, hx⟩ := hg
    subst hx
    obtain ⟨Pp, Stt, D⟩ := Sm.draws (t := t) (A := X.A.in1) I hq (I.ok.hd hc) (fun b m => (hk b m).1)
    obtain ⟨f0, f1, f2, f3, f4, f5⟩ := hf it (by simp)
    exact wpAny_pyNext_enum_endD D.d he (D.i _ hit) fun h' eb => ⟨rfl, I.turned (t' := s.toks) (fun b o hb q => eb b o hb q) f0 f1 f3 f4 f5⟩
  self := fun A i s Q E st h => let ⟨⟨_, he⟩, _⟩ := st; wpAny_pyIter_enum he h

theorem meets_enumerate_newB1 {v : Value} {o : Obj} {H : Heap → Prop} (B : Begins v o H) :
    Meets (Builtin.«enumerate.__new__» ⟨[.type "enumerate", v], []⟩) (fun _ R s => H s.heap ∧
      R (.ok (.ret (.ref (s.heap.push o).objs.size))) { s with heap := (s.heap.push o).push { cls := .type "enumerate", data := .fields #[.none, .bool false, .ref s.heap.objs.size, rawInt 0, .none, .none] } }) :=
  .of_wp fun prog w A R s h => by
    obtain ⟨hp, g, d, tk, os⟩ := s; obtain ⟨h1, h⟩ := h
    have hsub := sub_enumerate
    have q1 : ∀ {A' : Around} {E : Value → Shared → Prop} {Q : Value → Shared → Prop}, Q (.ref hp.objs.size) ⟨hp.push o, g, d, tk, os⟩ → wpAny (model prog w) A' (pyIter v) Q E ⟨hp, g, d, tk, os⟩ :=
      fun q => B.iter prog w _ _ ⟨hp, g, d, tk, os⟩ _ h1 q
    wp_walk using q1
    refine wpAny_stack_any fun st => wpAny_pure ?_
    split
    · rename_i c _ _ _ _ _
      cases (c == Value.type "enumerate")
      · wp_walk using q1
        exact ⟨_, rfl, h⟩
      · wp_walk using q1
        exact ⟨_, rfl, h⟩
    · wp_walk using q1
      exact ⟨_, rfl, h⟩
section
variable {prog : Program} {w : World} {A : Around} {E : Value → Shared → Prop} {s : Shared}
theorem enum_begins1 {v : Value} {o : Obj} {H : Heap → Prop} {Q : Value → Shared → Prop} (B : Begins v o H) (h1 : H s.heap)
    (h : ∀ h', IsEnum h' (s.heap.objs.size + 1) s.heap.objs.size 0 .none → h'.get? s.heap.objs.size = some o → h'.objs.size = s.heap.objs.size + 2 →
      (∀ b o, s.heap.get? b = some o → h'.get? b = some o) → Q (.ref (s.heap.objs.size + 1)) { s with heap := h' }) :
    wpAny (model prog w) A (call (.type "enumerate") [v]) Q E s := by
  refine callType_new F.called_enumerate (by decide) (F.typeCall_enumerate_1 _) (F.newCall_enumerate_1 _) (fun obj => F.args_object_init_2 obj _) F.entry_enumerate_new
    (meets_enumerate_newB1 B) ⟨h1, ?_⟩
  have hz : (s.heap.push o).objs.size = s.heap.objs.size + 1 := Heap.size_push ..
  show _ ∧ _
  rw [hz]
  have he : IsEnum ((s.heap.push o).push { cls := .type "enumerate", data := .fields #[.none, .bool false, .ref s.heap.objs.size, rawInt 0, .none, .none] }) (s.heap.objs.size + 1) s.heap.objs.size 0 .none := by
    have := Heap.get?_push_size (s.heap.push o) (o := { cls := .type "enumerate", data := .fields #[.none, .bool false, .ref s.heap.objs.size, rawInt 0, .none, .none] }) rfl
    rw [hz] at this; exact this
  refine ⟨⟨_, he, rfl⟩, h _ he (Heap.get?_push_of_some _ (Heap.get?_push_size _ B.free)) (by rw [Heap.size_push, hz]) fun b o x => Heap.get?_push_of_some _ (Heap.get?_push_of_some _ x)⟩
end
def iEnK (K : PySem.W.Frag) (ta : TA) : TI := fun σ H R => ta σ H fun vs H1 => ∃ k xs, vs = [Sm.x k] ∧ k.has K H1 xs ∧ R (IteK K k) H1
theorem pi_enumK {X : Cx} {e : Expr} {ta : TA} {p pos tpos : Pos} {elts : List Expr} {kk : Nat} (hg : Gl X "enumerate") (hm : X.mg "enumerate" = none) (ha : PA X [e] ta) (hs : starEach [e] X.env = [(false, eval e X.env)] := by rfl) :
    PI X (.Tuple elts kk tpos) (.Call (.Name "enumerate" p) [e] [] pos) (iEnK X.K ta) := by
  refine ⟨fun pins s σ H R I h => ?_⟩
  refine Call_ (ld_blt I hg hm boot_enumerate (PyProof.Rows.callWith_type1 (thn (ha.run pos pins s σ H _ I h) fun us s1 ⟨vs, H1, I1, r1, q1⟩ => ?_) hs rfl))
  obtain ⟨k, xs, ex, hq, q⟩ := q1
  subst ex
  cases r1 with
  | cons r rr =>
    cases rr
    obtain ⟨t, rfl⟩ := Sm.rel r
    obtain ⟨HH, B, hb⟩ := Sm.begins t I1 hq
    refine enum_begins1 B hb fun h' he hit hsz hk => wpAny_pyIter_enum he ?_
    have I2 : Inv X pins σ H1 { s1 with heap := h' } := I1.kept (t' := s1.toks) hk
    have hl := Sm.lt I1 hq
    refine ⟨s1.heap.objs.size + 1, [s1.heap.objs.size + 1, s1.heap.objs.size], _, _, H1, rfl, I2, turn_enumK k t (s1.heap.objs.size + 1) s1.heap.objs.size (Nat.succ_ne_self _) (fun b m => ⟨Nat.ne_of_lt (hl b m), Nat.ne_of_lt (Nat.lt_succ_of_lt (hl b m))⟩), ⟨⟨.none, he⟩, Sm.cur0 hit⟩, fun b hb => ?_, q⟩
    have e' : b = s1.heap.objs.size + 1 ∨ b = s1.heap.objs.size := by simpa using hb
    have hle : s1.heap.objs.size ≤ b := by
      rcases e' with z | z
      · rw [z]; exact Nat.le_add_right _ _
      · rw [z]; exact Nat.le_refl _
    exact I1.fpOk hle (I1.hok.fresh hle)
/-! zip -/
def ItzK (K : PySem.W.Frag) (k l : Sm) : It :=
  ⟨fun i H => ∃ (xs ys : List V) (x y : V), k.has K H xs ∧ l.has K H ys ∧ xs[i]? = some x ∧ ys[i]? = some y,
    fun i H v H' => ∃ T x y, v = .ref T ∧ H T = none ∧ H' = upd H T (.tup [x, y]) ∧ (∀ xs, k.has K H xs → xs[i]? = some x) ∧ ∀ ys, l.has K H ys → ys[i]? = some y,
    fun i H => ∃ xs ys : List V, k.has K H xs ∧ l.has K H ys ∧ i = min xs.length ys.length⟩
theorem turn_zipK {P : Program} {w : World} {K : PySem.W.Frag} {elts : List Expr} {kk : Nat} {tpos : Pos} {k l : Sm} {t t2 : Tok} {z TI TO i1 i2 : Addr} (D : ZipSep2 z TI TO i1 i2 (i1 :: k.at) (i2 :: l.at)) (hne1 : ∀ b ∈ k.at, b ≠ i1) (hne2 : ∀ b ∈ l.at, b ≠ i2) :
    Turn P w K (.Tuple elts kk tpos) (ItzK K k l) [z, TI, TO, i1, i2] z (fun i h => IsZip h z TI TO .none ∧ IsTupOf2 h TI (.ref i1) (.ref i2) ∧ (∃ x y, IsTupOf2 h TO x y) ∧ k.cur t i1 i h ∧ l.cur t2 i2 i h) where
  mem := by simp
  obj := fun i h st c hc => by
    obtain ⟨hz, hTI, ⟨x, y, hTO⟩, h1, h2⟩ := st
    have e' : c = z ∨ c = TI ∨ c = TO ∨ c = i1 ∨ c = i2 := by simpa using hc
    rcases e' with q | q | q | q | q
    · rw [q]; exact ⟨_, hz, fun v q => nomatch q⟩
    · rw [q]; exact ⟨_, hTI, fun v q => nomatch q⟩
    · rw [q]; exact ⟨_, hTO, fun v q => nomatch q⟩
    · rw [q]; exact Sm.cur_obj h1
    · rw [q]; exact Sm.cur_obj h2
  keep := fun i h h' st k => by
    obtain ⟨hz, hTI, ⟨x, y, hTO⟩, h1, h2⟩ := st
    exact ⟨k z (by simp) _ hz, k TI (by simp) _ hTI, ⟨x, y, k TO (by simp) _ hTO⟩, Sm.cur_at h1 fun o q => k i1 (by simp) o q, Sm.cur_at h2 fun o q => k i2 (by simp) o q⟩
  item := by
    intro X hP hw hK hc i pins s σ H E I hf st hg
    subst hP hw hK
    obtain ⟨hz, hTI, ⟨x0, y0, hTO⟩, h1, h2⟩ := st
    obtain ⟨xs, ys, x, y, hqx, hqy, hx, hy⟩ := hg
    obtain ⟨Pp, Stt, D1⟩ := Sm.draws (t := t) (A := X.A.in1) I hqx (I.ok.hd hc) hne1
    obtain ⟨Pp2, Stt2, D2⟩ := Sm.draws (t := t2) (A := X.A.in1) I hqy (I.ok.hd hc) hne2
    have hlt1 : i < xs.length := (List.getElem?_eq_some_iff.mp hx).1
    have hlt2 : i < ys.length := (List.getElem?_eq_some_iff.mp hy).1
    have hzl : z < s.heap.objs.size := Heap.lt_size hz
    refine wpAny_pyNext_zipD2_item D D1.d D2.d hz hTI hTO (D1.i _ h1) (D2.i _ h2) hlt1 hlt2 fun u u2 h' tk hP1 hP2 z' TO' h1' h2' hT hsz hk => ?_
    obtain ⟨xa, hxa, ru⟩ := D1.v _ _ hP1
    obtain ⟨ya, hya, ru2⟩ := D2.v _ _ hP2
    rw [hx] at hxa
    cases hxa
    rw [hy] at hya
    cases hya
    refine ⟨_, rfl, wpAny_letOwnedTupleGo_zip (s := { s with heap := h', toks := tk }) z' fun h'' z'' sb => ?_⟩
    have hT2 : h''.get? s.heap.objs.size = some { cls := .type "tuple", data := .seq #[u, u2] } := (sb.2 _ (Nat.ne_of_gt hzl)).trans hT
    have new : ObjOk X.prog X.w (upd H s.heap.objs.size (.tup [x, y])) h'' s.heap.objs.size (.tup [x, y]) :=
      ⟨by show 2 ≤ sizeLine; decide, [u, u2], .cons ru (.cons ru2 .nil), ⟨_, hT2, rfl, _, rfl⟩⟩
    have I1 : Inv X pins σ (upd H s.heap.objs.size (.tup [x, y])) { s with heap := h'', toks := tk } :=
      I.turnedNew (t' := tk) (ch := [z, TI, TO, i1, i2]) (fun c o hb q => (sb.2 c (fun q' => hb (by simp [q']))).trans (hk c o (fun q' => hb (by simp [q'])) (fun q' => hb (by simp [q'])) (fun q' => hb (by simp [q'])) (fun q' => hb (by simp [q'])) q)) hf (Nat.le_refl _) new
    refine ⟨.ref s.heap.objs.size, _, I1, rfl, ⟨_, x, y, rfl, I.hok.fresh (Nat.le_refl _), rfl, fun l hl => by rw [Sm.uniq I hl hqx]; exact hx, fun l hl => by rw [Sm.uniq I hl hqy]; exact hy⟩, ⟨z'', ?_, ⟨u, u2, ?_⟩, ?_, ?_⟩, fun c hcm => ?_⟩
    · exact (sb.2 _ D.TIz).trans (hk _ _ D.TIz D.TITO D.TIi1 D.TIi2 hTI)
    · exact (sb.2 _ D.TOz).trans TO'
    · exact Sm.cur_at (D1.o _ _ h1') fun o q => (sb.2 _ D.zi1.symm).trans q
    · exact Sm.cur_at (D2.o _ _ h2') fun o q => (sb.2 _ D.zi2.symm).trans q
    · have hlt : c < s.heap.objs.size := by
        have e' : c = z ∨ c = TI ∨ c = TO ∨ c = i1 ∨ c = i2 := by simpa using hcm
        rcases e' with q | q | q | q | q
        · rw [q]; exact hzl
        · rw [q]; exact Heap.lt_size hTI
        · rw [q]; exact Heap.lt_size hTO
        · rw [q]; obtain ⟨_, e1, _⟩ := Sm.cur_obj h1; exact Heap.lt_size e1
        · rw [q]; obtain ⟨_, e2, _⟩ := Sm.cur_obj h2; exact Heap.lt_size e2
      rw [upd_ne (Nat.ne_of_lt hlt)]
      exact (hf c hcm).1
  done := by
    intro X hP hw hK hc i pins s σ H E I hf st hg
    subst hP hw hK
    obtain ⟨hz, hTI, ⟨x0, y0, hTO⟩, h1, h2⟩ := st
    obtain ⟨xs, ys, hqx, hqy, hend⟩ := hg
    obtain ⟨Pp, Stt, D1⟩ := Sm.draws (t := t) (A := X.A.in1) I hqx (I.ok.hd hc) hne1
    obtain ⟨Pp2, Stt2, D2⟩ := Sm.draws (t := t2) (A := X.A.in1) I hqy (I.ok.hd hc) hne2
    exact wpAny_pyNext_zipD2_end D D1.d D2.d hz hTI hTO (D1.i _ h1) (D2.i _ h2) (by omega) (by omega) (by omega) fun h' tk hk => ⟨rfl, I.turnedL (t' := tk) (ch := [z, TI, TO, i1, i2]) (fun c o hb q =>
      hk c o (fun q' => hb (by simp [q'])) (fun q' => hb (by simp [q'])) (fun q' => hb (by simp [q'])) (fun q' => hb (by simp [q'])) q) hf⟩
  self := fun A i s Q E st h => wpAny_pyIter_zip st.1 h
def iZipK (K : PySem.W.Frag) (ta : TA) : TI := fun σ H R => ta σ H fun vs H1 => ∃ k l xs ys, vs = [Sm.x k, Sm.x l] ∧ k.has K H1 xs ∧ l.has K H1 ys ∧ R (ItzK K k l) H1
theorem pi_zipK {X : Cx} {e e2 : Expr} {ta : TA} {p pos tpos : Pos} {elts : List Expr} {kk : Nat} (hg : Gl X "zip") (hm : X.mg "zip" = none) (ha : PA X [e, e2] ta)
    (hs : starEach [e, e2] X.env = (false, eval e X.env) :: starEach [e2] X.env := by rfl) (hpl : (backTo pos (starEach [e2] X.env)).any (·.1) = false := by rfl) :
    PI X (.Tuple elts kk tpos) (.Call (.Name "zip" p) [e, e2] [] pos) (iZipK X.K ta) := by
  refine ⟨fun pins s σ H R I h => ?_⟩
  refine Call_ (ld_blt I hg hm PyProof.Rows.boot_zip (PyProof.Rows.callWith_type1 (thn (ha.run pos pins s σ H _ I h) fun us s1 ⟨vs, H1, I1, r1, q1⟩ => ?_) hs hpl))
  obtain ⟨k, l, xs, ys, ex, hqx, hqy, q⟩ := q1
  subst ex
  cases r1 with
  | cons r rr =>
    cases rr with
    | cons r' rr =>
      cases rr
      obtain ⟨t, rfl⟩ := Sm.rel r
      obtain ⟨t2, rfl⟩ := Sm.rel r'
      obtain ⟨HH, B, hb⟩ := Sm.begins t I1 hqx
      obtain ⟨HH2, B2, hb2⟩ := Sm.begins t2 I1 hqy
      have fresh5 : ∀ c, c ∈ [s1.heap.objs.size + 4, s1.heap.objs.size + 2, s1.heap.objs.size + 3, s1.heap.objs.size, s1.heap.objs.size + 1] → FpOk X pins H1 c := fun c hcm => by
        have e' : c = s1.heap.objs.size + 4 ∨ c = s1.heap.objs.size + 2 ∨ c = s1.heap.objs.size + 3 ∨ c = s1.heap.objs.size ∨ c = s1.heap.objs.size + 1 := by simpa using hcm
        have hle : s1.heap.objs.size ≤ c := by
          rcases e' with z | z | z | z | z
          · rw [z]; exact Nat.le_add_right _ _
          · rw [z]; exact Nat.le_add_right _ _
          · rw [z]; exact Nat.le_add_right _ _
          · rw [z]; exact Nat.le_refl _
          · rw [z]; exact Nat.le_add_right _ _
        exact I1.fpOk hle (I1.hok.fresh hle)
      have hl := Sm.lt I1 hqx
      have hl2 := Sm.lt I1 hqy
      refine zip_begins2 B B2 hb hb2 fun h' hz hTI hTO h1 h2 hsz hk => wpAny_pyIter_zip hz ?_
      have I2 : Inv X pins σ H1 { s1 with heap := h' } := I1.kept (t' := s1.toks) hk
      exact ⟨s1.heap.objs.size + 4, [s1.heap.objs.size + 4, s1.heap.objs.size + 2, s1.heap.objs.size + 3, s1.heap.objs.size, s1.heap.objs.size + 1], _, _, H1, rfl, I2, turn_zipK (t := t) (t2 := t2) (zip_sep2 hl hl2) (fun b m => Nat.ne_of_lt (hl b m)) (fun b m => Nat.ne_of_lt (Nat.lt_succ_of_lt (hl2 b m))), ⟨hz, hTI, ⟨_, _, hTO⟩, Sm.cur0 h1, Sm.cur0 h2⟩, fresh5, q⟩

/-! ### at data -/
def Fits (K : PySem.W.Frag) (k : Sm) (v : V) (d : D) (ds : List D) : Prop := ∀ H F, OwnE K H v d F → ∃ vs, k.has K H vs ∧ vs.length = ds.length ∧ ∀ c ∈ vs.zip ds, ∃ F, OwnE K H c.1 c.2 F
theorem sep_each {K : PySem.W.Frag} {H : Hp} {cs : List (V × D)} {F : Fp} (s : Sep (OwnE K H) cs F) : ∀ c ∈ cs, ∃ F, OwnE K H c.1 c.2 F := fun c m => by
  obtain ⟨v, d⟩ := c
  obtain ⟨i, hi⟩ := List.mem_iff_getElem?.mp m
  obtain ⟨F1, q, _⟩ := s.get hi
  exact ⟨F1, q⟩
theorem seqS_fits {K : PySem.W.Frag} {f : Fm} {H : Hp} {σ : L2.St} {δ : Env} {T : List (V × Rs)} {v : V} {r : Rs} {P : List Rs → List D → Prop} (R : Rp K f H σ δ ((v, r) :: T)) (h : SeqS δ r P) :
    ∃ k xs d ds, v = Sm.x k ∧ k.has K H xs ∧ rsv δ r = some d ∧ P [r] ds ∧ (∀ x ∈ ds, Imm x) ∧ Fits K k v d ds := by
  cases h with
  | @seq r d ds _ h1 h2 h3 p =>
    obtain ⟨F, o⟩ := R.res (v := v) (r := r) (by simp) h1
    cases d with
    | tup xs =>
      cases h2
      obtain ⟨a, vs, rfl, hs, hl, _⟩ := own_tup o
      refine ⟨.T a, vs, _, ds, rfl, hs, h1, p, h3, fun H F o => ?_⟩
      obtain ⟨a', vs', ea, h1, h2, F', s⟩ := own_tup o
      cases ea
      exact ⟨vs', h1, h2, sep_each s⟩
    | lst xs =>
      cases h2
      obtain ⟨a, vs, rfl, hs, hl, _⟩ := own_lst o
      refine ⟨.L a, vs, _, ds, rfl, SqL.of hs, h1, p, h3, fun H F o => ?_⟩
      obtain ⟨a', vs', ea, h1, h2, F', s⟩ := own_lst o
      cases ea
      exact ⟨vs', SqL.of h1, h2, sep_each s⟩
    | fz xs =>
      cases h2
      obtain ⟨a, vs, rfl, hs, hl, _⟩ := own_fz o
      refine ⟨.L a, vs, _, ds, rfl, hs, h1, p, h3, fun H F o => ?_⟩
      obtain ⟨a', vs', ea, h1, h2, F', s⟩ := own_fz o
      cases ea
      exact ⟨vs', h1, h2, sep_each s⟩
    | _ => cases h2
  | @str z _ p =>
    cases R.vstr (v := v) (i := z) (by simp)
    refine ⟨.S z, signV z, .str z, signs z, rfl, rfl, rfl, p, fun d m => ?_, fun H F o => ⟨signV z, rfl, by simp [signV, signs], fun c m => ?_⟩⟩
    · obtain ⟨c, _, rfl⟩ := List.mem_map.mp m
      exact imm_str
    · obtain ⟨i, hi⟩ := List.mem_iff_getElem?.mp m
      have h1 := List.getElem?_zip_eq_some.mp hi
      obtain ⟨h1, h2⟩ := h1
      unfold signV at h1
      unfold signs at h2
      rw [List.getElem?_map] at h1 h2
      cases q : z.cps.toList[i]? with
      | none => rw [q] at h1; cases h1
      | some cc =>
        rw [q] at h1 h2
        have e1 := Option.some.inj h1
        have e2 := Option.some.inj h2
        refine ⟨fun _ => False, ?_⟩
        rw [← e1, ← e2]
        exact .str
/-- the items with their numbers -/
def enD (ds : List D) : List D := ds.mapIdx fun i d => .tup [.int (i : Nat), d]
theorem enD_get {ds : List D} {i : Nat} {e : D} (h : (enD ds)[i]? = some e) : ∃ d, ds[i]? = some d ∧ e = .tup [.int (i : Nat), d] := by
  unfold enD at h
  rw [List.getElem?_mapIdx] at h
  cases q : ds[i]? with
  | none => rw [q] at h; cases h
  | some d => rw [q] at h; cases h; exact ⟨d, rfl, rfl⟩
theorem enD_len {ds : List D} : (enD ds).length = ds.length := by simp [enD]
def ziD (ds es : List D) : List D := (ds.zip es).map fun c => .tup [c.1, c.2]
theorem ziD_len {ds es : List D} : (ziD ds es).length = min ds.length es.length := by simp [ziD]
theorem ziD_get {ds es : List D} {i : Nat} {e : D} (h : (ziD ds es)[i]? = some e) : ∃ a b, ds[i]? = some a ∧ es[i]? = some b ∧ e = .tup [a, b] := by
  unfold ziD at h
  rw [List.getElem?_map] at h
  cases q : (ds.zip es)[i]? with
  | none => rw [q] at h; cases h
  | some d =>
    rw [q] at h; cases h
    obtain ⟨h1, h2⟩ := List.getElem?_zip_eq_some.mp q
    exact ⟨_, _, h1, h2, rfl⟩
theorem own_pair {K : PySem.W.Frag} {H : Hp} {T : Addr} {x y : V} {a b : D} {F1 F2 : Fp} (hT : H T = none) (o1 : OwnE K H x a F1) (o2 : OwnE K H y b F2) (i1 : Imm a) (i2 : Imm b) : OwnE K (upd H T (.tup [x, y])) (.ref T) (.tup [a, b]) fun _ => False := by
  have t : Tx H (upd H T (.tup [x, y])) := Tx.new hT
  have p1 := (i1 _ _ _ _ o1).frame t (fun _ q => q.elim)
  have p2 := (i2 _ _ _ _ o2).frame t (fun _ q => q.elim)
  refine OwnE.node (F' := fun _ => False) (vs := [x, y]) (SqT.of upd_same) rfl ?_ (fun _ q => q) (fun q => nomatch q)
  exact ⟨fun _ => False, fun _ => False, p1, ⟨fun _ => False, fun _ => False, p2, trivial, fun _ q => q.elim, fun _ q => q, fun _ q => q⟩, fun _ q => q.elim, fun _ q => q, fun _ q => q⟩
theorem gv_enum {K : PySem.W.Frag} {k : Sm} {v : V} {d : D} {ds : List D} (h : Fits K k v d ds) (hi : ∀ x ∈ ds, Imm x) : Gv K (IteK K k) (enD ds) [(v, d)] := fun H g => by
  obtain ⟨F, o⟩ := g (v, d) List.mem_cons_self
  obtain ⟨vs, h1, hl, s⟩ := h H F o
  refine ⟨⟨vs, h1, by rw [enD_len]; exact hl⟩, fun i e he => ?_⟩
  obtain ⟨d', hd, rfl⟩ := enD_get he
  obtain ⟨v', e1, e2⟩ := zip_get hl hd
  refine ⟨⟨vs, v', h1, e1⟩, fun x H' ⟨T, x', ex, hT, eH, y⟩ => ?_⟩
  subst ex eH
  have := y vs h1
  rw [e1] at this
  cases this
  obtain ⟨F1, q⟩ := s _ (List.mem_of_getElem? e2)
  exact ⟨same_new hT, _, own_pair hT (F1 := fun _ => False) .int q imm_int (hi _ (List.mem_of_getElem? hd))⟩
theorem gv_zip {K : PySem.W.Frag} {k l : Sm} {v u : V} {d e : D} {ds es : List D} (h : Fits K k v d ds) (hi : ∀ x ∈ ds, Imm x) (h' : Fits K l u e es) (hi' : ∀ x ∈ es, Imm x) {ss : List (V × D)} (m1 : (v, d) ∈ ss) (m2 : (u, e) ∈ ss) : Gv K (ItzK K k l) (ziD ds es) ss := fun H g => by
  obtain ⟨F, o⟩ := g (v, d) m1
  obtain ⟨G, p⟩ := g (u, e) m2
  obtain ⟨vs, h1, hl, s⟩ := h H F o
  obtain ⟨us, h2, hl2, s2⟩ := h' H G p
  refine ⟨⟨vs, us, h1, h2, by rw [ziD_len, hl, hl2]⟩, fun i e he => ?_⟩
  obtain ⟨a, b, ha, hb, rfl⟩ := ziD_get he
  obtain ⟨v', e1, e2⟩ := zip_get hl ha
  obtain ⟨u', f1, f2⟩ := zip_get hl2 hb
  refine ⟨⟨vs, us, v', u', h1, h2, e1, f1⟩, fun x H' ⟨T, x', y', ex, hT, eH, y, y2⟩ => ?_⟩
  subst ex eH
  have := y vs h1
  rw [e1] at this
  cases this
  have := y2 us h2
  rw [f1] at this
  cases this
  obtain ⟨F1, q⟩ := s _ (List.mem_of_getElem? e2)
  obtain ⟨F2, q2⟩ := s2 _ (List.mem_of_getElem? f2)
  exact ⟨same_new hT, _, own_pair hT q q2 (hi _ (List.mem_of_getElem? ha)) (hi' _ (List.mem_of_getElem? hb))⟩
section
variable {X : Cx} {f : Fm} {δ : Env} {e a b c tg iter : Expr} {es rest tgs : List Expr} {st : Stmt} {sts : List Stmt} {pos p2 : Pos} {Ψ : List Rs → List D → Env → Prop}
variable {N : List Str} {sc : Scope} {Pr : Program} {w : World} {K : PySem.W.Frag} {mg : Str → Option Value} {base : Heap}
theorem enD_imm {ds : List D} (h : ∀ x ∈ ds, Imm x) : ∀ x ∈ enD ds, Imm x := fun x m => by
  obtain ⟨i, hi⟩ := List.mem_iff_getElem?.mp m
  obtain ⟨d, hd, rfl⟩ := enD_get hi
  exact imm_tup (imm_cons imm_int (imm_cons (h _ (List.mem_of_getElem? hd)) imm_nil))
theorem ziD_imm {ds es : List D} (h : ∀ x ∈ ds, Imm x) (h' : ∀ x ∈ es, Imm x) : ∀ x ∈ ziD ds es, Imm x := fun x m => by
  obtain ⟨i, hi⟩ := List.mem_iff_getElem?.mp m
  obtain ⟨a, b, ha, hb, rfl⟩ := ziD_get hi
  exact imm_tup (imm_cons (h _ (List.mem_of_getElem? ha)) (imm_cons (h' _ (List.mem_of_getElem? hb)) imm_nil))
theorem di_enum {p tpos : Pos} {elts : List Expr} {kk : Nat} (B : Bd X N sc) (J : Jn X Pr w K mg base) (hg : Gls sc "enumerate") (hm : mg "enumerate" = none)
    (h : DA X f δ [e] fun rs δ1 => ∃ r, rs = [r] ∧ SeqS δ1 r fun rs ds => Ψ rs (enD ds) δ1) (hs : starEach [e] X.env = [(false, eval e X.env)] := by rfl) : DI X f δ (.Tuple elts kk tpos) (.Call (.Name "enumerate" p) [e] [] pos) Ψ :=
  ⟨pi_imp (pi_enumK (B.glob hg) (by rw [J.mg]; exact hm) h.h hs) fun σ H R ⟨T, Rr, q⟩ => ⟨T, Rr, fun rs δ1 vs H1 ⟨r, er, k⟩ hl R1 => by
    obtain ⟨v, ev, ez⟩ := one_of (T := T) er hl
    subst ev er
    rw [ez] at R1
    obtain ⟨k, xs, d, ds, ev, hh, hd, p, hi, ft⟩ := seqS_fits R1 k
    refine ⟨k, xs, by rw [ev], hh, q [r] (enD ds) [d] δ1 [v] H1 _ p rfl (by unfold rsvs rsvs; rw [hd]) (enD_imm hi) R1 (gv_enum ft hi)⟩⟩⟩
theorem di_zip {p tpos : Pos} {elts : List Expr} {kk : Nat} (B : Bd X N sc) (J : Jn X Pr w K mg base) (hg : Gls sc "zip") (hm : mg "zip" = none)
    (h : DA X f δ [a, b] fun rs δ1 => ∃ r1 r2, rs = [r1, r2] ∧ SeqS δ1 r1 fun ra ds => SeqS δ1 r2 fun rb es => Ψ [r1, r2] (ziD ds es) δ1)
    (hs : starEach [a, b] X.env = (false, eval a X.env) :: starEach [b] X.env := by rfl) (hpl : (backTo pos (starEach [b] X.env)).any (·.1) = false := by rfl) : DI X f δ (.Tuple elts kk tpos) (.Call (.Name "zip" p) [a, b] [] pos) Ψ :=
  ⟨pi_imp (pi_zipK (B.glob hg) (by rw [J.mg]; exact hm) h.h hs hpl) fun σ H R ⟨T, Rr, q⟩ => ⟨T, Rr, fun rs δ1 vs H1 ⟨r1, r2, er, k⟩ hl R1 => by
    obtain ⟨v, u, ev, ez⟩ := two_of (T := T) er hl
    subst ev er
    rw [ez] at R1
    obtain ⟨k1, xs, d, ds, ev, hh, hd, k, hi, ft⟩ := seqS_fits R1 k
    obtain ⟨k2, ys, d2, es, ev2, hh2, hd2, k, hi2, ft2⟩ := seqS_fits R1.tail k
    refine ⟨k1, k2, xs, ys, by rw [ev, ev2], hh, hh2, q [r1, r2] (ziD ds es) [d, d2] δ1 [v, u] H1 _ k rfl (by unfold rsvs rsvs rsvs; rw [hd, hd2]) (ziD_imm hi hi2) R1 (gv_zip ft hi ft2 hi2 (by simp) (by simp))⟩⟩⟩
end
end Dl

namespace Dl
open PySem L2

/-! ### a dict of the module, texts by texts -/
def KD (K : PySem.W.Frag) (w : World) (mg : Str → Option Value) (x : Str) (tab : List (Str × Str)) : Prop :=
  ∃ a es n, mg x = some (.ref a) ∧ KDict K w a es n ∧ ∀ z, ∃ r, PySem.W.nsIn K a z = some r ∧ r.isSome = (tab.lookup z).isSome ∧ ∀ y, tab.lookup z = some y → ∃ u, r = some u ∧ RelV (.str y) u
section
variable {X : Cx} {f : Fm} {δ : Env} {e a b c : Expr} {es rest : List Expr} {st : Stmt} {sts : List Stmt} {pos p2 : Pos} {Ψ : Rs → Env → Prop} {Θ : Bool → Env → Prop} {Λ : List Rs → Env → Prop} {Φ : Ph}
variable {N : List Str} {sc : Scope} {Pr : Program} {w : World} {K : PySem.W.Frag} {mg : Str → Option Value} {base : Heap} {k n m : Nat}
theorem de_opqG {p : Pos} {x : Str} {v : V} {u : Value} (B : Bd X N sc) (J : Jn X Pr w K mg base) (hg : Gls sc x) (hm : mg x = some u) (r : RelV v u) (h : Ψ (.v (.opq v)) δ) (h1 : (x == ("__debug__" : Str)) = false := by decide) : DE X f δ (.Name x p) Ψ := by
  obtain ⟨rfl, rfl, rfl, rfl, rfl⟩ := J
  exact DE.of (pe_glob (B.glob hg) hm r h1) fun σ H Q ⟨T, R, q⟩ => q _ _ _ _ h (R.pushL rfl)
theorem dt_inKD {p : Pos} {x : Str} {tab : List (Str × Str)} (B : Bd X N sc) (J : Jn X Pr w K mg base) (hg : Gls sc x) (T : KD K w mg x tab) (h : DE X f δ a fun ra δ1 => ∃ z, ra = .v (.str z) ∧ Θ (tab.lookup z).isSome δ1)
    (h1 : (x == ("__debug__" : Str)) = false := by decide) : DT X f δ (.Compare a [.In] [.Name x p] pos) Θ := by
  obtain ⟨d, es, n, hm, D, t⟩ := T
  have J' := J
  obtain ⟨rfl, rfl, rfl, rfl, rfl⟩ := J'
  refine DT.of (pt_cmpR (op_in_kd D) (h.mono (Ψ' := fun ra δ1 => DE X f δ1 (.Name x p) fun rb δ2 => ∃ z, ra = .v (.str z) ∧ rb = .v (.opq (.ref d)) ∧ Θ (tab.lookup z).isSome δ2) fun ra δ1 ⟨z, e, q⟩ => de_opqG (v := .ref d) B J hg hm rfl ⟨z, e, rfl, q⟩ h1).h (pe_u (f := f)) rfl) fun σ H Q ⟨T, R, q⟩ => ⟨T, R, fun ra δ1 x H1 hb R1 => ⟨δ1, _, hb, (x, ra) :: T, R1, fun rb δ2 y H2 ⟨z, e1, e2, q2⟩ R2 => ?_⟩⟩
  subst e1 e2
  cases R2.vstr (v := x) (i := z) (by simp)
  cases R2.vleaf (v := y) (w := .ref d) (d := .opq (.ref d)) (by simp) rfl
  obtain ⟨r, h1, h2, h3⟩ := t z
  refine ⟨z, r, rfl, rfl, h1, ?_⟩
  rw [h2]
  exact ⟨_, rfl, q _ _ _ q2 R2.tail2⟩
theorem dt_notinKD {p : Pos} {x : Str} {tab : List (Str × Str)} (B : Bd X N sc) (J : Jn X Pr w K mg base) (hg : Gls sc x) (T : KD K w mg x tab) (h : DE X f δ a fun ra δ1 => ∃ z, ra = .v (.str z) ∧ Θ (!(tab.lookup z).isSome) δ1)
    (h1 : (x == ("__debug__" : Str)) = false := by decide) : DT X f δ (.Compare a [.NotIn] [.Name x p] pos) Θ := by
  obtain ⟨d, es, n, hm, D, t⟩ := T
  have J' := J
  obtain ⟨rfl, rfl, rfl, rfl, rfl⟩ := J'
  refine DT.of (pt_cmpR (op_notIn_kd D) (h.mono (Ψ' := fun ra δ1 => DE X f δ1 (.Name x p) fun rb δ2 => ∃ z, ra = .v (.str z) ∧ rb = .v (.opq (.ref d)) ∧ Θ (!(tab.lookup z).isSome) δ2) fun ra δ1 ⟨z, e, q⟩ => de_opqG (v := .ref d) B J hg hm rfl ⟨z, e, rfl, q⟩ h1).h (pe_u (f := f)) rfl) fun σ H Q ⟨T, R, q⟩ => ⟨T, R, fun ra δ1 x H1 hb R1 => ⟨δ1, _, hb, (x, ra) :: T, R1, fun rb δ2 y H2 ⟨z, e1, e2, q2⟩ R2 => ?_⟩⟩
  subst e1 e2
  cases R2.vstr (v := x) (i := z) (by simp)
  cases R2.vleaf (v := y) (w := .ref d) (d := .opq (.ref d)) (by simp) rfl
  obtain ⟨r, h1, h2, h3⟩ := t z
  refine ⟨z, r, rfl, rfl, h1, ?_⟩
  rw [h2]
  exact ⟨_, rfl, q _ _ _ q2 R2.tail2⟩
theorem de_ixKD {p : Pos} {x : Str} {tab : List (Str × Str)} (B : Bd X N sc) (J : Jn X Pr w K mg base) (hg : Gls sc x) (T : KD K w mg x tab) (h : DE X f δ b fun rb δ1 => ∃ z y, rb = .v (.str z) ∧ tab.lookup z = some y ∧ Ψ (.v (.str y)) δ1)
    (h1 : (x == ("__debug__" : Str)) = false := by decide) (hs : PlainIx b := by exact fun _ _ => rfl) : DE X f δ (.Subscript (.Name x p) b pos) Ψ := by
  obtain ⟨d, es, n, hm, D, t⟩ := T
  have J' := J
  obtain ⟨rfl, rfl, rfl, rfl, rfl⟩ := J'
  refine de_ix2 ix_kdict hs (de_opqG (v := .ref d) B J hg hm rfl (h.mono fun rb δ1 ⟨z, y, e, hl, q⟩ => ?_) h1)
  intro H σ T x' y' Q R q'
  subst e
  cases R.vstr (v := y') (i := z) (by simp)
  cases R.vleaf (v := x') (w := .ref d) (d := .opq (.ref d)) (by simp) rfl
  obtain ⟨r, h1, h2, h3⟩ := t z
  obtain ⟨u, rfl, ru⟩ := h3 y hl
  exact ⟨d, z, .str y, rfl, rfl, ⟨es, n, u, D.at_, D.lit, h1, ru⟩, q' _ _ _ q (R.tail2.pushL rfl)⟩
/-! ### isinstance -/
def tyD : D → Option String
  | .non => some "NoneType"
  | .bl _ => some "bool"
  | .int _ => some "int"
  | .str _ => some "str"
  | .tup _ => some "tuple"
  | .lst _ => some "list"
  | .fz _ => some "list"
  | .dK _ => some "dict"
  | .dT _ => some "dict"
  | _ => none
theorem tyX_of {H : Hp} {v : V} {d : D} {F : Fp} {t : String} (o : OwnE K H v d F) (h : tyD d = some t) : TyX K H v (.type t) := by
  cases d with
  | non => cases h; rw [o.of_non]; exact .base .non
  | bl b => cases h; rw [o.of_bl]; exact .base (.bl b)
  | int i => cases h; rw [o.of_int]; exact .base (.int i)
  | str i => cases h; rw [o.of_str]; exact .base (.str i)
  | tup xs =>
    cases h
    obtain ⟨a, vs, rfl, hs, _⟩ := own_tup o
    rcases hs with (hs | ⟨oo, hs⟩) | ⟨o', its, n, e1, e2, _⟩
    · exact .base (.tup hs)
    · exact .fTuple hs
    · exact .kTuple e1 e2
  | lst xs =>
    cases h
    obtain ⟨a, vs, rfl, hs, _⟩ := own_lst o
    exact .base (.lst hs)
  | fz xs =>
    cases h
    obtain ⟨a, vs, rfl, hs, _⟩ := own_fz o
    rcases hs with (hs | ⟨oo, hs⟩) | ⟨o', its, n, e1, e2, _⟩
    · exact .base (.lst hs)
    · exact .base (.frz hs)
    · exact .kList e1 e2
  | dK kvs =>
    cases h
    obtain ⟨a, vs, rfl, h2, _⟩ := o.of_node rfl (fun _ _ q => nomatch q)
    exact .base (.dK h2)
  | dT kvs =>
    cases h
    obtain ⟨a, vs, rfl, h2, _⟩ := o.of_node rfl (fun _ _ q => nomatch q)
    exact .base (.dT h2)
  | _ => cases h
theorem de_tyName {p : Pos} {x : Str} {t : String} (B : Bd X N sc) (J : Jn X Pr w K mg base) (hg : Gls sc x) (hm : mg x = none) (hv : bootBuiltins x = some (.type t)) (h : Ψ (.v (.opq (.ty t))) δ) (hn : x ≠ "__name__" := by decide) (hd : (x == ("__debug__" : Str)) = false := by decide) : DE X f δ (.Name x p) Ψ := by
  obtain ⟨rfl, rfl, rfl, rfl, rfl⟩ := J
  exact DE.of (pe_bltn (B.glob hg) hm hv (show RelV (.ty t) (.type t) from rfl) hn hd) fun σ H Q ⟨T, R, q⟩ => q _ _ _ _ h (R.pushL rfl)
inductive IsiS (δ : Env) : List Rs → (Bool → Prop) → Prop
  | mk {r : Rs} {d : D} {t c : String} {b : Bool} {P : Bool → Prop} : rsv δ r = some d → tyD d = some t → kitB t c = some b → P b → IsiS δ [r, .v (.opq (.ty c))] P
theorem de_isi {p : Pos} (B : Bd X N sc) (J : Jn X Pr w K mg base) (hg : Gls sc "isinstance") (hm : mg "isinstance" = none) (h : DA X f δ [a, b] fun rs δ1 => IsiS δ1 rs fun t => Ψ (.v (.bl t)) δ1)
    (he : starEach [a, b] X.env = (false, eval a X.env) :: starEach [b] X.env := by rfl) (hpl : (backTo pos (starEach [b] X.env)).any (·.1) = false := by rfl) : DE X f δ (.Call (.Name "isinstance" p) [a, b] [] pos) Ψ :=
  de_bltn call_isi B J hg hm (by rfl) (he := he) (hpl := hpl) (h := h.mono fun rs δ1 k => by
    cases k with
    | @mk r d t c b _ h1 h2 h3 k =>
      refine callOk2 fun H σ T v u Q R q => ?_
      obtain ⟨F, o⟩ := R.res (v := v) (r := r) (by simp) h1
      cases R.vleaf (v := u) (w := .ty c) (d := .opq (.ty c)) (by simp) rfl
      exact ⟨v, .ty c, _, _, b, rfl, .ty c, tyX_of o h2, kit_ty h3, q _ _ _ k (R.tail2.pushL rfl)⟩)
/-! ### texts -/
def strsD (ys : List Str) : List D := ys.map .str
theorem imm_strsD {ys : List Str} : ∀ x ∈ strsD ys, Imm x := imm_map fun _ => imm_str
inductive JoinS (δ : Env) : Str → Rs → (D → Prop) → Prop
  | mk {s : Str} {r : Rs} {d : D} {ds : List D} {ys : List Str} {P : D → Prop} : rsv δ r = some d → itemsOf d = some ds → ds = strsD ys → (ys.map (·.length)).sum + ys.length * s.length ≤ 16777216 → P (.str (Txt.join s ys)) → JoinS δ s r P
theorem strs_own {H : Hp} : ∀ {ys : List Str} {vs : List V} {F : Fp}, vs.length = (strsD ys).length → Sep (OwnE K H) (vs.zip (strsD ys)) F → vs = ys.map V.str
  | [], [], _, _, _ => rfl
  | y :: ys, v :: vs, F, hl, s => by
    obtain ⟨F1, F2, s1, s2, _⟩ := s
    show v :: vs = V.str y :: ys.map V.str
    rw [s1.of_str, strs_own (ys := ys) (by simpa [strsD] using hl) s2]
  | [], _ :: _, _, hl, _ => nomatch hl
  | _ :: _, [], _, hl, _ => nomatch hl
theorem de_join {o : Expr} {ap : Pos} (h : DE X f δ o fun ro δ1 => ∃ s, ro = .v (.str s) ∧ DE X f δ1 e fun r δ2 => JoinS δ2 s r fun d => Ψ (.v d) δ2) (hs : starEach [e] X.env = [(false, eval e X.env)] := by rfl) (hbase : attributeBase o "join" X.env (eval o X.env) = eval o X.env := by rfl) (hline : (ap.endLine == pos.line) = true := by rfl) :
    DE X f δ (.Call (.Attribute o "join" ap) [e] [] pos) Ψ :=
  DE.of (pe_join h.h (pe_u (f := f)) hs hbase hline) fun σ H Q ⟨T, R, q⟩ => ⟨T, R, fun ro δ1 v H1 ⟨s, es, k⟩ R1 => by
    subst es
    cases R1.vstr (v := v) (i := s) (by simp)
    refine ⟨⟨s, rfl⟩, δ1, _, k, _, R1, fun r δ2 u H2 k R2 => ?_⟩
    cases k with
    | @mk d ds ys P h1 h2 h3 h4 k =>
      subst h3
      obtain ⟨F, o⟩ := R2.res (v := u) (r := r) (by simp) h1
      obtain ⟨p, vs, rfl, hs, hl, F', sp⟩ := own_items o h2
      have ev := strs_own hl sp
      subst ev
      exact ⟨s, p, ys, rfl, rfl, hs, h4, q _ _ _ _ k (R2.tail2.pushL rfl)⟩⟩
inductive SplitS : Str → Rs → (D → Prop) → Prop
  | mk {s z : Str} {P : D → Prop} : (z.length == 0) = false → s.length + 2 ≤ sizeLine → P (.lst (strsD (Txt.split s z))) → SplitS s (.v (.str z)) P
theorem de_split {o : Expr} {ap : Pos} (h : DE X f δ o fun ro δ1 => ∃ s, ro = .v (.str s) ∧ DE X f δ1 e fun r δ2 => SplitS s r fun d => Ψ (.v d) δ2) (hs : starEach [e] X.env = [(false, eval e X.env)] := by rfl) (hbase : attributeBase o "split" X.env (eval o X.env) = eval o X.env := by rfl) (hline : (ap.endLine == pos.line) = true := by rfl) :
    DE X f δ (.Call (.Attribute o "split" ap) [e] [] pos) Ψ :=
  DE.of (pe_split h.h (pe_u (f := f)) hs hbase hline) fun σ H Q ⟨T, R, q⟩ => ⟨T, R, fun ro δ1 v H1 ⟨s, es, k⟩ R1 => by
    subst es
    cases R1.vstr (v := v) (i := s) (by simp)
    refine ⟨⟨s, rfl⟩, δ1, _, k, _, R1, fun r δ2 u H2 k R2 => ?_⟩
    cases k with
    | @mk z P h1 h2 k =>
      cases R2.vstr (v := u) (i := z) (by simp)
      refine ⟨s, z, rfl, rfl, h1, h2, fun p hp => q _ _ _ _ k (R2.tail2.newI hp (show upd H2 p _ p = _ from upd_same) (by simp [strsD, kids]) fun c m => ?_)⟩
      have m' : c ∈ ((Txt.split s z).map V.str).zip ((Txt.split s z).map D.str) := m
      rw [List.zip_map'] at m'
      obtain ⟨y, _, rfl⟩ := List.mem_map.mp m'
      exact .str⟩
/-! ### pop(i), index, * n -/
theorem Sep.erase {R : V → D → Fp → Prop} : ∀ {L : List (V × D)} {k : Nat} {F : Fp}, Sep R L F → Sep R (L.eraseIdx k) F
  | [], _, _, h => h
  | _ :: L, 0, _, h => h.tail
  | b :: L, k + 1, _, h => by
    show Sep R (b :: L.eraseIdx k) _
    exact h.under fun G => Sep.erase
theorem zip_erase : ∀ (vs : List V) (ds : List D) (k : Nat), (vs.eraseIdx k).zip (ds.eraseIdx k) = (vs.zip ds).eraseIdx k
  | [], ds, k => by simp
  | v :: vs, [], k => by simp
  | v :: vs, d :: ds, 0 => rfl
  | v :: vs, d :: ds, k + 1 => congrArg ((v, d) :: ·) (zip_erase vs ds k)
theorem erase_len {α β : Type} {vs : List α} {ds : List β} (h : vs.length = ds.length) (k : Nat) : (vs.eraseIdx k).length = (ds.eraseIdx k).length := by
  rw [List.length_eraseIdx, List.length_eraseIdx, h]
inductive PopS (δ : Env) : Rs → List Rs → (D → Env → Prop) → Prop
  | s {j : Nat} {ds : List D} {i : Int} {k : Nat} {d : D} {P : D → Env → Prop} : δ[j]? = some (some (.lst ds)) → 0 ≤ i → i < 2 ^ 63 → k = i.toNat → ds[k]? = some d → Imm d → P d (δ.set j (some (.lst (ds.eraseIdx k)))) → PopS δ (.s j) [.v (.int i)] P
theorem de_popAt {o : Expr} {ap : Pos} (h : DE X f δ o fun ro δ1 => IsLst δ1 ro ∧ DA X f δ1 [e] fun rs δ2 => PopS δ2 ro rs fun d δ4 => Ψ (.v d) δ4)
    (hbase : attributeBase o "pop" X.env (eval o X.env) = eval o X.env := by rfl) (hline : (ap.endLine == pos.line) = true := by rfl) (hs : starEach [e] X.env = (false, eval e X.env) :: starEach [] X.env := by rfl)
    (hfew : ((backTo pos (starEach [e] X.env)).all (fun x => !x.1) && (backToKw pos (keywordEach [] X.env)).all (fun x => x.1.isSome) && decide (([e] : List Expr).length + ([] : List Keyword).length + (if ([] : List Keyword).isEmpty then 0 else 1) < 30)) = true := by rfl) :
    DE X f δ (.Call (.Attribute o "pop" ap) [e] [] pos) Ψ :=
  DE.of (pe_bm PySem.F.plainAttrs_list PySem.F.slot_list_pop PySem.F.type_list_pop mt_popAt h.h (pa_u (f := f)) hbase hfew hline hs) fun σ H Q ⟨T, R, q⟩ => ⟨T, R, fun ro δ1 v H1 ⟨il, k1⟩ R1 => ⟨tyV_lst R1 il, δ1, _, k1, _, R1, fun rs δ2 vs H2 k3 hl R2 => by
    cases k3 with
    | @s j ds i k d _ hj h0 h1 hk hd him kk =>
      obtain ⟨u, eu, ez⟩ := one_of (T := (v, Rs.s j) :: T) rfl hl
      subst eu
      rw [ez] at R2
      cases R2.vint (v := u) (i := i) (by simp)
      have R3 := R2.tail
      have ev := R3.tmp (v, Rs.s j) (by simp) j rfl
      obtain ⟨F, o⟩ := R3.slotv hj ev
      obtain ⟨p, vs, rfl, e1, l1, F1, s1⟩ := own_lst o
      obtain ⟨y, hy, hyz⟩ := zip_get l1 hd
      obtain ⟨F2, oy, _⟩ := s1.get hyz
      have R4 := Rp.pushI R3.tail oy him
      obtain ⟨p', ws, ep, e1', l1', ch⟩ := Rp.lstChange (cs := []) R4 ev hj
      cases ep
      rw [e1] at e1'
      cases e1'
      have hkl : k < ds.length := (List.getElem?_eq_some_iff.mp hd).1
      refine ⟨p, vs, i, k, y, rfl, rfl, e1, by omega, h1, ?_, hy, q _ _ _ _ kk (ch (vs.eraseIdx k) (ds.eraseIdx k) (erase_len l1 k) fun R F s => ?_)⟩
      · unfold seqIndex?
        simp only
        have e0 : (if i < 0 then i + (vs.length : Int) else i) = i := if_neg (by omega)
        rw [e0, if_pos (by simp; omega), hk]
      · rw [zip_erase]
        rw [show ([] : List (V × Rs)).map tc = [] from rfl, List.append_nil] at s
        exact s.erase⟩⟩
inductive IndexS (δ : Env) : Rs → List Rs → (D → Prop) → Prop
  | mk {ro r : Rs} {ns : List Int} {y : Int} {P : D → Prop} : rsv δ ro = some (.lst (ns.map .int)) → rsv δ r = some (.int y) → y ∈ ns → P (.int (ns.idxOf y : Nat)) → IndexS δ ro [r] P
theorem leafs_ints (ns : List Int) : leafs (ns.map D.int) = some (ns.map V.int) := by
  induction ns with
  | nil => rfl
  | cons n ns ih =>
    show (match leaf (D.int n), leafs (ns.map D.int) with
    | some v, some vs => some (v :: vs)
    | _, _ => none) = _
    rw [ih]
    rfl
theorem de_index {o : Expr} {ap : Pos} (h : DE X f δ o fun ro δ1 => IsLst δ1 ro ∧ DA X f δ1 [e] fun rs δ2 => IndexS δ2 ro rs fun d => Ψ (.v d) δ2)
    (hbase : attributeBase o "index" X.env (eval o X.env) = eval o X.env := by rfl) (hline : (ap.endLine == pos.line) = true := by rfl) (hs : starEach [e] X.env = (false, eval e X.env) :: starEach [] X.env := by rfl)
    (hfew : ((backTo pos (starEach [e] X.env)).all (fun x => !x.1) && (backToKw pos (keywordEach [] X.env)).all (fun x => x.1.isSome) && decide (([e] : List Expr).length + ([] : List Keyword).length + (if ([] : List Keyword).isEmpty then 0 else 1) < 30)) = true := by rfl) :
    DE X f δ (.Call (.Attribute o "index" ap) [e] [] pos) Ψ :=
  DE.of (pe_bm PySem.F.plainAttrs_list PySem.F.slot_list_index PySem.F.type_list_index mt_index h.h (pa_u (f := f)) hbase hfew hline hs) fun σ H Q ⟨T, R, q⟩ => ⟨T, R, fun ro δ1 v H1 ⟨il, k1⟩ R1 => ⟨tyV_lst R1 il, δ1, _, k1, _, R1, fun rs δ2 vs H2 k3 hl R2 => by
    cases k3 with
    | @mk r ns y P h1 h2 hm kk =>
      obtain ⟨u, eu, ez⟩ := one_of (T := (v, ro) :: T) rfl hl
      subst eu
      rw [ez] at R2
      obtain ⟨F, o⟩ := R2.res (v := v) (r := ro) (by simp) h1
      obtain ⟨F2, o2⟩ := R2.res (v := u) (r := r) (by simp) h2
      have eu := o2.of_int
      subst eu
      obtain ⟨p, vs, rfl, e1, l1, F1, s1⟩ := own_lst o
      have ev := leafs_own (leafs_ints ns) l1 s1
      subst ev
      have hlt : ns.idxOf y < ns.length := List.idxOf_lt_length_of_mem hm
      refine ⟨p, ns.map V.int, .int y, ns.idxOf y, .int y, rfl, rfl, SqL.of e1, rfl, by simp [flatV], ?_, by simp [eqV], fun m z' hm' hz => ?_, q _ _ _ _ kk (R2.tail2.pushL rfl)⟩
      · rw [List.getElem?_map, List.getElem?_eq_getElem hlt, List.getElem_idxOf hlt]; rfl
      · rw [List.getElem?_map] at hz
        cases q : ns[m]? with
        | none => rw [q] at hz; cases hz
        | some a =>
          rw [q] at hz
          cases hz
          have hne : a ≠ y := fun e => by
            subst e
            obtain ⟨h3, h4⟩ := List.getElem?_eq_some_iff.mp q
            have h5 := List.not_of_lt_findIdx (p := fun x => x == a) (xs := ns) hm'
            simp [h4] at h5
          simp [eqV, hne]⟩⟩
/-- a list times a number -/
inductive MulS (δ : Env) : Rs → Rs → (D → Prop) → Prop
  | int {i j : Int} {P : D → Prop} : CMul i j → P (.int (i * j)) → MulS δ (.v (.int i)) (.v (.int j)) P
  | rep {r : Rs} {ds : List D} {k : Int} {P : D → Prop} : rsv δ r = some (.lst ds) → (∀ x ∈ ds, Imm x) → (-(2 ^ 63) ≤ k ∧ k < 2 ^ 63 ∧ ds.length * k.toNat ≤ sizeLine) → P (.lst (List.replicate k.toNat ds).flatten) → MulS δ r (.v (.int k)) P
theorem rep_len {α β : Type} {vs : List α} {ds : List β} (h : vs.length = ds.length) : ∀ n, (List.replicate n vs).flatten.length = (List.replicate n ds).flatten.length := fun n => by
  simp [h]
theorem rep_zip {vs : List V} {ds : List D} (h : vs.length = ds.length) : ∀ n, (List.replicate n vs).flatten.zip (List.replicate n ds).flatten = (List.replicate n (vs.zip ds)).flatten
  | 0 => rfl
  | n + 1 => by
    rw [List.replicate_succ, List.replicate_succ, List.replicate_succ, List.flatten_cons, List.flatten_cons, List.flatten_cons, zip_app h, rep_zip h n]
theorem op2_rep {K : PySem.W.Frag} {ra : Rs} {ds : List D} {k : Int} {P : D → Prop} (h1 : rsv δ ra = some (.lst ds)) (hi : ∀ x ∈ ds, Imm x) (hk : -(2 ^ 63) ≤ k ∧ k < 2 ^ 63 ∧ ds.length * k.toNat ≤ sizeLine) (p : P (.lst (List.replicate k.toNat ds).flatten)) : Op2 K f δ rRep ra (.v (.int k)) P := fun H σ T x y Q R q => by
  cases R.vint (v := y) (i := k) (by simp)
  obtain ⟨F, o⟩ := R.res (v := x) (r := ra) (by simp) h1
  obtain ⟨l, vs, rfl, e1, l1, F1, s1⟩ := own_lst o
  refine ⟨l, k, vs, rfl, rfl, e1, hk.1, hk.2.1, by rw [l1]; exact hk.2.2, fun p' hp => q _ _ _ p (R.tail2.newI hp (show upd H p' _ p' = _ from upd_same) (rep_len l1 _) fun c m => ?_)⟩
  have m' : c ∈ (List.replicate k.toNat vs).flatten.zip (List.replicate k.toNat ds).flatten := m
  rw [rep_zip l1] at m'
  obtain ⟨z, hz, hc⟩ := List.mem_flatten.mp m'
  rw [(List.mem_replicate.mp hz).2] at hc
  exact sep_imm s1 hi c hc
theorem de_mulG (h : DE X f δ a fun ra δ1 => DE X f δ1 b fun rb δ2 => MulS δ2 ra rb fun d => Ψ (.v d) δ2) : DE X f δ (.BinOp a .Mult b pos) Ψ :=
  de_op2 (OpR.or op_mul op_rep) (h.mono fun _ _ h => h.mono fun _ _ k => by
    cases k with
    | int h1 k => exact op2_l (op2_I (k := fun i j => .int (i * j)) (fun _ _ => rfl) h1 k)
    | rep h1 h2 h3 k => exact op2_r (op2_rep h1 h2 h3 k))
/-- list(range(..)) -/
theorem rgV_len' {a b : Int} : (rgV a b).length = (kids (.lst (rngD a (b - a).toNat))).length := by
  show _ = (rngD a (b - a).toNat).length
  rw [rgV_length, rngD_len]
theorem rg_own {H : Hp} {a b : Int} : ∀ c ∈ (rgV a b).zip (kids (.lst (rngD a (b - a).toNat))), OwnE K H c.1 c.2 fun _ => False := fun c m => by
  have m' : c ∈ ((List.range (b - a).toNat).map fun i => V.int (a + (i : Nat))).zip ((List.range (b - a).toNat).map fun i => D.int (a + (i : Nat))) := m
  rw [List.zip_map'] at m'
  obtain ⟨y, _, rfl⟩ := List.mem_map.mp m'
  exact .int
theorem de_listRg {p p3 : Pos} {pos3 : Pos} (B : Bd X N sc) (J : Jn X Pr w K mg base) (hg : Gls sc "list") (hm : mg "list" = none) (hg2 : Gls sc "range") (hm2 : mg "range" = none)
    (h : DE X f δ a fun r δ1 => ∃ n, r = .v (.int n) ∧ RgOk 0 n ∧ Ψ (.v (.lst (rngD 0 (n - 0).toNat))) δ1)
    (na : starEach [.Call (.Name "range" p3) [a] [] pos3] X.env = (false, eval (.Call (.Name "range" p3) [a] [] pos3) X.env) :: starEach [] X.env := by rfl) (na2 : starEach [a] X.env = (false, eval a X.env) :: starEach [] X.env := by rfl) :
    DE X f δ (.Call (.Name "list" p) [.Call (.Name "range" p3) [a] [] pos3] [] pos) Ψ :=
  DE.of (pe_listRg B.calm (B.glob hg) (by rw [J.mg]; exact hm) (prg_1 (B.glob hg2) (by rw [J.mg]; exact hm2) h.h na2) na) fun σ H Q ⟨T, R, q⟩ => ⟨T, R, fun r δ1 v H1 ⟨n, e, ok, k⟩ R1 => by
    subst e
    cases R1.vint (v := v) (i := n) (by simp)
    exact ⟨n, rfl, ok, fun p hp => q _ _ _ _ k (R1.tail.newI hp (show upd H1 p _ p = _ from upd_same) rgV_len' rg_own)⟩⟩
theorem de_listRg2 {p p3 : Pos} {pos3 : Pos} (B : Bd X N sc) (J : Jn X Pr w K mg base) (hg : Gls sc "list") (hm : mg "list" = none) (hg2 : Gls sc "range") (hm2 : mg "range" = none)
    (h : DE X f δ a fun r δ1 => DE X f δ1 b fun r2 δ2 => ∃ m n, r = .v (.int m) ∧ r2 = .v (.int n) ∧ RgOk m n ∧ Ψ (.v (.lst (rngD m (n - m).toNat))) δ2)
    (na : starEach [.Call (.Name "range" p3) [a, b] [] pos3] X.env = (false, eval (.Call (.Name "range" p3) [a, b] [] pos3) X.env) :: starEach [] X.env := by rfl) (na2 : starEach [a, b] X.env = (false, eval a X.env) :: starEach [b] X.env := by rfl)
    (nb : starEach [b] X.env = (false, eval b X.env) :: starEach [] X.env := by rfl) (hp : (backTo pos3 (starEach [b] X.env)).any (·.1) = false := by rfl) :
    DE X f δ (.Call (.Name "list" p) [.Call (.Name "range" p3) [a, b] [] pos3] [] pos) Ψ :=
  DE.of (pe_listRg B.calm (B.glob hg) (by rw [J.mg]; exact hm) (prg_2 (B.glob hg2) (by rw [J.mg]; exact hm2) h.h (pe_u (f := f)) na2 nb hp) na) fun σ H Q ⟨T, R, q⟩ => ⟨T, R, fun r δ1 v H1 k0 R1 => ⟨δ1, _, k0, _, R1, fun r2 δ2 u H2 ⟨m, n, e, e2, ok, kk⟩ R2 => by
    subst e e2
    cases R2.vint (v := v) (i := m) (by simp)
    cases R2.vint (v := u) (i := n) (by simp)
    exact ⟨m, n, rfl, rfl, ok, fun p hp => q _ _ _ _ kk (R2.tail2.newI hp (show upd H2 p _ p = _ from upd_same) rgV_len' rg_own)⟩⟩⟩
end
end Dl

namespace Dl
open PySem L2
/-! ### what is handed -/
theorem imm_at0 {ds : List D} {pm : List Bool} (h : ∀ d ∈ ds, Imm d) : ImmAt pm ds := fun i d _ h2 => h d (List.mem_of_getElem? h2)
theorem imm_at1 {ds : List D} {pm : List Bool} {x : D} (h : ∀ d ∈ ds, Imm d) : ImmAt (true :: pm) (x :: ds) := fun i d h1 h2 => by
  cases i with
  | zero => cases h1
  | succ i => exact h d (List.mem_of_getElem? (by simpa using h2))
/-! ### cheap looks -/
section
variable {X : Cx} {f : Fm} {δ : Env} {e a b c tg iter elt : Expr} {es rest ifs : List Expr} {st : Stmt} {sts : List Stmt} {pos p2 p3 : Pos} {Ψ : Rs → Env → Prop} {Θ : Bool → Env → Prop} {Λ : List Rs → Env → Prop} {Φ : Ph}
variable {N : List Str} {sc scope : Scope} {Pr : Program} {w : World} {K : PySem.W.Frag} {mg : Str → Option Value} {base : Heap} {k n m : Nat}

theorem g_int (h : DE X f δ (.Call (.Name "int" p2) [e] [] pos) Ψ) : DE X f δ (.Call (.Name "int" p2) [e] [] pos) Ψ := h
theorem g_strc (h : DE X f δ (.Call (.Name "str" p2) [e] [] pos) Ψ) : DE X f δ (.Call (.Name "str" p2) [e] [] pos) Ψ := h
theorem g_list (h : DE X f δ (.Call (.Name "list" p2) [e] [] pos) Ψ) : DE X f δ (.Call (.Name "list" p2) [e] [] pos) Ψ := h
theorem g_tuple (h : DE X f δ (.Call (.Name "tuple" p2) [e] [] pos) Ψ) : DE X f δ (.Call (.Name "tuple" p2) [e] [] pos) Ψ := h
theorem g_isi (h : DE X f δ (.Call (.Name "isinstance" p2) [a, b] [] pos) Ψ) : DE X f δ (.Call (.Name "isinstance" p2) [a, b] [] pos) Ψ := h
theorem g_append {o : Expr} (h : DE X f δ (.Call (.Attribute o "append" p2) [e] [] pos) Ψ) : DE X f δ (.Call (.Attribute o "append" p2) [e] [] pos) Ψ := h
theorem g_extend {o : Expr} (h : DE X f δ (.Call (.Attribute o "extend" p2) [e] [] pos) Ψ) : DE X f δ (.Call (.Attribute o "extend" p2) [e] [] pos) Ψ := h
theorem g_join {o : Expr} (h : DE X f δ (.Call (.Attribute o "join" p2) [e] [] pos) Ψ) : DE X f δ (.Call (.Attribute o "join" p2) [e] [] pos) Ψ := h
theorem g_split {o : Expr} (h : DE X f δ (.Call (.Attribute o "split" p2) [e] [] pos) Ψ) : DE X f δ (.Call (.Attribute o "split" p2) [e] [] pos) Ψ := h
theorem g_pop {o : Expr} (h : DE X f δ (.Call (.Attribute o "pop" p2) [e] [] pos) Ψ) : DE X f δ (.Call (.Attribute o "pop" p2) [e] [] pos) Ψ := h
theorem g_index {o : Expr} (h : DE X f δ (.Call (.Attribute o "index" p2) [e] [] pos) Ψ) : DE X f δ (.Call (.Attribute o "index" p2) [e] [] pos) Ψ := h
theorem g_ixN {x : Str} (h : DE X f δ (.Subscript (.Name x p2) b pos) Ψ) : DE X f δ (.Subscript (.Name x p2) b pos) Ψ := h
theorem g_slice {lo hi : Option Expr} (h : DE X f δ (.Subscript e (.Slice lo hi none p2) pos) Ψ) : DE X f δ (.Subscript e (.Slice lo hi none p2) pos) Ψ := h
theorem g_asg (h : DS X f δ (.Assign [tg] e pos) Φ) : DS X f δ (.Assign [tg] e pos) Φ := h
theorem g_asgT {es2 : List Expr} (h : DS X f δ (.Assign [.Tuple es k p2] e pos) Φ) : DS X f δ (.Assign [.Tuple es k p2] e pos) Φ := h
theorem g_DG {d : D} {sl : List Nat} {Ξ : Env → Prop} (h : DG X f δ tg d sl Ξ) : DG X f δ tg d sl Ξ := h
theorem g_DGs {ds : List D} {sl : List Nat} {Ξ : Env → Prop} (h : DGs X f δ es ds sl Ξ) : DGs X f δ es ds sl Ξ := h
theorem g_DTs (h : DTs X f δ ifs Θ) : DTs X f δ ifs Θ := h
theorem g_DO {o : Option Expr} {Ω : Option Int → Env → Prop} (h : DO X f δ o Ω) : DO X f δ o Ω := h
theorem g_DI {Ξ : List Rs → List D → Env → Prop} (h : DI X f δ tg iter Ξ) : DI X f δ tg iter Ξ := h
theorem g_InB {P : Cx → Prop} (h : InB X N sc P) : InB X N sc P := h
theorem g_lc {gs : List Comprehension} (h : DE X f δ (.ListComp elt gs scope pos) Ψ) : DE X f δ (.ListComp elt gs scope pos) Ψ := h
theorem g_cmpN {op : CmpOp} {x : Str} (h : DT X f δ (.Compare a [op] [.Name x p2] pos) Θ) : DT X f δ (.Compare a [op] [.Name x p2] pos) Θ := h
theorem pts_imp {t t' : TT} (h : PTs X ifs t) (i : ∀ σ H Q, t' σ H Q → t σ H Q) : PTs X ifs t' := ⟨fun pins s σ H Q I q => h.run pins s σ H Q I (i σ H Q q)⟩
/-- a comprehension that changes nothing, of items g tells (or leaves out) -/
theorem lc_fm {own : List Nat} {rs : List Rs} {ds : List D} {δ1 : Env} (g : D → Option D) (h1 : slots rs = []) (h2 : ds.length < sizeLine)
    (h3 : ∀ (i : Nat) (d : D), ds[i]? = some d → Turn1 X N sc f tg elt ifs own d (clr δ1 own) fun o δ3 => o = g d ∧ δ3 = clr δ1 own) (h4 : Ψ (.v (.lst (ds.filterMap g))) (clr δ1 own)) : LcOk X N sc f tg elt ifs own Ψ rs ds δ1 := by
  refine ⟨h1, h2, fun i acc δ2 => acc = (ds.take i).filterMap g ∧ δ2 = clr δ1 own, ⟨by simp, rfl⟩, ?_, ?_⟩
  · rintro i d acc δ2 hd _ ⟨rfl, rfl⟩
    have hl : ds.take (i + 1) = ds.take i ++ [d] := by rw [List.take_add_one, hd]; rfl
    have fin : ∀ (o : Option D) (δ3 : Env), (o = g d ∧ δ3 = clr δ1 own) → addO ((ds.take i).filterMap g) o = (ds.take (i + 1)).filterMap g ∧ δ3 = clr δ1 own := by
      rintro o δ3 ⟨rfl, rfl⟩
      refine ⟨?_, rfl⟩
      rw [hl, List.filterMap_append]
      cases q : g d with
      | none => simp [addO, q]
      | some e => simp [addO, q]
    exact fun X' b B => (h3 i d hd X' b B).mono fun δ3 h => fun X' b B => ⟨pts_imp (h X' b B).h fun σ H Q ⟨T, R, q⟩ => ⟨T, R, fun t δ4 H' ⟨k1, k2⟩ => q t δ4 H' ⟨fun ht X' b B => (k1 ht X' b B).mono fun r δ5 ⟨e, δ6, tk, p⟩ => ⟨e, δ6, tk, fin _ _ p⟩, fun ht => fin _ _ (k2 ht)⟩⟩⟩
  · rintro acc δ2 ⟨rfl, rfl⟩
    rw [List.take_length]
    exact h4
theorem lc_none {own : List Nat} {rs : List Rs} {ds : List D} {δ1 : Env} (h1 : slots rs = []) (h2 : ds.length < sizeLine)
    (h3 : ∀ (i : Nat) (d : D), ds[i]? = some d → Turn1 X N sc f tg elt ifs own d (clr δ1 own) fun o δ3 => o = none ∧ δ3 = clr δ1 own) (h4 : Ψ (.v (.lst [])) (clr δ1 own)) : LcOk X N sc f tg elt ifs own Ψ rs ds δ1 := by
  refine lc_fm (fun _ => none) h1 h2 h3 ?_
  rw [show ds.filterMap (fun _ => (none : Option D)) = [] by simp]
  exact h4
theorem lc_map {own : List Nat} {rs : List Rs} {ds : List D} {δ1 : Env} (g : D → D) (h1 : slots rs = []) (h2 : ds.length < sizeLine)
    (h3 : ∀ (i : Nat) (d : D), ds[i]? = some d → Turn1 X N sc f tg elt ifs own d (clr δ1 own) fun o δ3 => o = some (g d) ∧ δ3 = clr δ1 own) (h4 : Ψ (.v (.lst (ds.map g))) (clr δ1 own)) : LcOk X N sc f tg elt ifs own Ψ rs ds δ1 := by
  refine lc_fm (fun d => some (g d)) h1 h2 h3 ?_
  rw [show (fun d => some (g d)) = some ∘ g from rfl, List.filterMap_eq_map]
  exact h4
end
theorem kb_NoneType_bool : kitB "NoneType" "bool" = some false := by decide +kernel
theorem kb_NoneType_str : kitB "NoneType" "str" = some false := by decide +kernel
theorem kb_NoneType_int : kitB "NoneType" "int" = some false := by decide +kernel
theorem kb_NoneType_tuple : kitB "NoneType" "tuple" = some false := by decide +kernel
theorem kb_NoneType_list : kitB "NoneType" "list" = some false := by decide +kernel
theorem kb_NoneType_dict : kitB "NoneType" "dict" = some false := by decide +kernel
theorem kb_bool_bool : kitB "bool" "bool" = some true := by decide +kernel
theorem kb_bool_str : kitB "bool" "str" = some false := by decide +kernel
theorem kb_bool_int : kitB "bool" "int" = some true := by decide +kernel
theorem kb_bool_tuple : kitB "bool" "tuple" = some false := by decide +kernel
theorem kb_bool_list : kitB "bool" "list" = some false := by decide +kernel
theorem kb_bool_dict : kitB "bool" "dict" = some false := by decide +kernel
theorem kb_int_bool : kitB "int" "bool" = some false := by decide +kernel
theorem kb_int_str : kitB "int" "str" = some false := by decide +kernel
theorem kb_int_int : kitB "int" "int" = some true := by decide +kernel
theorem kb_int_tuple : kitB "int" "tuple" = some false := by decide +kernel
theorem kb_int_list : kitB "int" "list" = some false := by decide +kernel
theorem kb_int_dict : kitB "int" "dict" = some false := by decide +kernel
theorem kb_str_bool : kitB "str" "bool" = some false := by decide +kernel
theorem kb_str_str : kitB "str" "str" = some true := by decide +kernel
theorem kb_str_int : kitB "str" "int" = some false := by decide +kernel
theorem kb_str_tuple : kitB "str" "tuple" = some false := by decide +kernel
theorem kb_str_list : kitB "str" "list" = some false := by decide +kernel
theorem kb_str_dict : kitB "str" "dict" = some false := by decide +kernel
theorem kb_tuple_bool : kitB "tuple" "bool" = some false := by decide +kernel
theorem kb_tuple_str : kitB "tuple" "str" = some false := by decide +kernel
theorem kb_tuple_int : kitB "tuple" "int" = some false := by decide +kernel
theorem kb_tuple_tuple : kitB "tuple" "tuple" = some true := by decide +kernel
theorem kb_tuple_list : kitB "tuple" "list" = some false := by decide +kernel
theorem kb_tuple_dict : kitB "tuple" "dict" = some false := by decide +kernel
theorem kb_list_bool : kitB "list" "bool" = some false := by decide +kernel
theorem kb_list_str : kitB "list" "str" = some false := by decide +kernel
theorem kb_list_int : kitB "list" "int" = some false := by decide +kernel
theorem kb_list_tuple : kitB "list" "tuple" = some false := by decide +kernel
theorem kb_list_list : kitB "list" "list" = some true := by decide +kernel
theorem kb_list_dict : kitB "list" "dict" = some false := by decide +kernel
theorem kb_dict_bool : kitB "dict" "bool" = some false := by decide +kernel
theorem kb_dict_str : kitB "dict" "str" = some false := by decide +kernel
theorem kb_dict_int : kitB "dict" "int" = some false := by decide +kernel
theorem kb_dict_tuple : kitB "dict" "tuple" = some false := by decide +kernel
theorem kb_dict_list : kitB "dict" "list" = some false := by decide +kernel
theorem kb_dict_dict : kitB "dict" "dict" = some true := by decide +kernel
section
variable {A B : Prop}
theorem br_rev {t : Bool} (h : (t = true → A) ∧ (t = false → B)) : (t = false → B) ∧ (t = true → A) := ⟨h.2, h.1⟩
theorem br_T {t : Bool} (e : t = true) (h : A) : (t = true → A) ∧ (t = false → B) := ⟨fun _ => h, fun q => by rw [e] at q; cases q⟩
theorem br_F {t : Bool} (e : t = false) (h : B) : (t = true → A) ∧ (t = false → B) := ⟨fun q => by rw [e] at q; (cases q), fun _ => h⟩
end
theorem unp_all {f : Fm} {l js : List Nat} (h : f.pn = l) (a : (js.all fun i => l.all (· != i)) = true) : ∀ j ∈ js, Unp f j := fun j m => unp_of h (List.all_eq_true.mp a j m)
theorem eqD_nil {ds : List D} : eqD (.lst ds) (.lst []) = ds.isEmpty := by
  cases ds <;> rfl
section
variable {X : Cx} {f : Fm} {δ : Env} {a b : Expr} {es : List Expr} {pos p2 : Pos} {Θ : Bool → Env → Prop} {Ψ : Rs → Env → Prop} {k n : Nat}
theorem eqs_nil {ra : Rs} {ds : List D} {P : Bool → Prop} (h : rsv δ ra = some (.lst ds)) (hs : Shp n (.lst ds)) (hn : n ≤ 64) (hk : P ds.isEmpty) : EqS δ ra (.v (.lst [])) P :=
  .mk h rfl hs (shp_lst (n := 0) fun _ m => nomatch m) hn (by decide) (by rw [eqD_nil]; exact hk)
theorem eqD_nilT {ds : List D} : eqD (.tup ds) (.tup []) = ds.isEmpty := by
  cases ds <;> rfl
theorem eqs_nilT {ra : Rs} {ds : List D} {P : Bool → Prop} (h : rsv δ ra = some (.tup ds)) (hs : Shp n (.tup ds)) (hn : n ≤ 64) (hk : P ds.isEmpty) : EqS δ ra (.v (.tup [])) P :=
  .mk h rfl hs (shp_tup (n := 0) fun _ m => nomatch m) hn (by decide) (by rw [eqD_nilT]; exact hk)
theorem g_neLst (h : DT X f δ (.Compare a [.NotEq] [.List es p2] pos) Θ) : DT X f δ (.Compare a [.NotEq] [.List es p2] pos) Θ := h
theorem g_eqLst (h : DT X f δ (.Compare a [.Eq] [.List es p2] pos) Θ) : DT X f δ (.Compare a [.Eq] [.List es p2] pos) Θ := h
theorem g_neTup (h : DT X f δ (.Compare a [.NotEq] [.Tuple es k p2] pos) Θ) : DT X f δ (.Compare a [.NotEq] [.Tuple es k p2] pos) Θ := h
theorem g_eqTup (h : DT X f δ (.Compare a [.Eq] [.Tuple es k p2] pos) Θ) : DT X f δ (.Compare a [.Eq] [.Tuple es k p2] pos) Θ := h
theorem shp_all_nil : ∀ x ∈ ([] : List D), Shp n x := fun _ m => nomatch m
theorem shp_all_cons {d : D} {ds : List D} (h : Shp n d) (t : ∀ x ∈ ds, Shp n x) : ∀ x ∈ d :: ds, Shp n x := fun x m => (List.mem_cons.mp m).elim (fun e => e ▸ h) (t x)
theorem shp_all_map {α : Type} {l : List α} {g : α → D} (h : ∀ a, Shp n (g a)) : ∀ x ∈ l.map g, Shp n x := fun x m => by
  obtain ⟨i, _, rfl⟩ := List.mem_map.mp m
  exact h i
end
theorem imm_cut {xs : List D} {lo hi : Option Int} (h : ∀ x ∈ xs, Imm x) : ∀ x ∈ cutA xs lo hi, Imm x := fun x m => h x (cutA_mem m)
theorem cutA_tail {α : Type} {x : α} {xs : List α} : cutA (x :: xs) (some 1) none = xs := by
  unfold cutA HT.sIx
  simp
theorem atI_zero {α : Type} {x : α} {xs : List α} : atI (x :: xs) 0 = some x := by
  unfold atI ixN
  rw [if_pos (by decide), if_pos (by simp)]
  rfl
theorem map_get {α : Type} {l : List α} {g : α → D} {i : Nat} {d : D} (h : (l.map g)[i]? = some d) : ∃ a, l[i]? = some a ∧ d = g a := by
  rw [List.getElem?_map] at h
  cases q : l[i]? with
  | none => rw [q] at h; cases h
  | some a => rw [q] at h; exact ⟨a, rfl, (Option.some.inj h).symm⟩
theorem signs_get {z : Str} {i : Nat} {d : D} (h : (signs z)[i]? = some d) : ∃ c, z.cps.toList[i]? = some c ∧ d = .str ⟨#[c]⟩ := map_get h
theorem dgs_name {X : Cx} {f : Fm} {δ : Env} {e : Expr} {es : List Expr} {Ψ : Env → Prop} {d : D} {ds : List D} {j : Nat} {s2 : List Nat} (h : DG X f δ e d [j] fun δ1 => DGs X f δ1 es ds s2 Ψ) (hs : (assignEach (e :: es) X.env).map (·.2) = assign e X.env :: (assignEach es X.env).map (·.2) := by rfl) : DGs X f δ (e :: es) (d :: ds) (j :: s2) Ψ :=
  dgs_cons h hs
/-! targets, without the slots told -/
def tGw (K : PySem.W.Frag) (f : Fm) (δ : Env) (d : D) (Ψ : Env → Prop) : TG := fun v σ H Q => ∃ T, Rp K f H σ δ ((v, .v d) :: tv T) ∧ ∀ δ' σ' H', Ψ δ' → Rp K f H' σ' δ' (tv T) → Q σ' H'
def tGsw (K : PySem.W.Frag) (f : Fm) (δ : Env) (ds : List D) (Ψ : Env → Prop) : TGs := fun vs σ H Q => ∃ T, vs.length = ds.length ∧ Rp K f H σ δ (vs.zip (ds.map Rs.v) ++ tv T) ∧ ∀ δ' σ' H', Ψ δ' → Rp K f H' σ' δ' (tv T) → Q σ' H'
structure DGw (X : Cx) (f : Fm) (δ : Env) (tg : Expr) (d : D) (Ψ : Env → Prop) : Prop where
  h : PG X tg (tGw X.K f δ d Ψ)
structure DGsw (X : Cx) (f : Fm) (δ : Env) (tgs : List Expr) (ds : List D) (Ψ : Env → Prop) : Prop where
  h : PGs X tgs (tGsw X.K f δ ds Ψ)
section
variable {X : Cx} {f : Fm} {δ : Env} {e a b c tg : Expr} {es : List Expr} {pos : Pos} {Ψ : Env → Prop} {Φ : Ph} {N : List Str} {sc : Scope}
def uGw (X : Cx) (f : Fm) (tg : Expr) : TG := fun v σ H Q => ∃ δ d Ψ, DGw X f δ tg d Ψ ∧ tGw X.K f δ d Ψ v σ H Q
def uGsw (X : Cx) (f : Fm) (tgs : List Expr) : TGs := fun v σ H Q => ∃ δ d Ψ, DGsw X f δ tgs d Ψ ∧ tGsw X.K f δ d Ψ v σ H Q
theorem pg_uw : PG X tg (uGw X f tg) := ⟨fun pins s σ H v u Q I r ⟨_, _, _, h, q⟩ => h.h.run pins s σ H v u Q I r q⟩
theorem pgs_uw : PGs X es (uGsw X f es) := ⟨fun pins s σ H v u Q I r ⟨_, _, _, h, q⟩ => h.h.run pins s σ H v u Q I r q⟩
theorem DG.w {d : D} {sl : List Nat} (h : DG X f δ tg d sl Ψ) : DGw X f δ tg d Ψ := ⟨pg_imp h.h fun v σ H Q ⟨T, R, q⟩ => ⟨T, R, fun δ' σ' H' k _ _ R' => q δ' σ' H' k R'⟩⟩
theorem dgw_name {i : Nat} {x : Str} {d : D} (B : Bd X N sc) (hi : Sl N i x) (hx : Sto X sc x) (hu : Unp f i) (k : Ψ (δ.set i (some d))) : DGw X f δ (.Name x pos) d Ψ := (dg_name B hi hx hu k).w
theorem dgsw_nil (k : Ψ δ) : DGsw X f δ [] [] Ψ := ⟨pgs_imp pgs_nil fun vs σ H Q ⟨T, hl, R, q⟩ => by
  cases vs with
  | nil => exact ⟨rfl, q δ σ H k R⟩
  | cons _ _ => cases hl⟩
theorem dgsw_cons {d : D} {ds : List D} (h : DGw X f δ e d fun δ1 => DGsw X f δ1 es ds Ψ) (hs : (assignEach (e :: es) X.env).map (·.2) = assign e X.env :: (assignEach es X.env).map (·.2) := by rfl) : DGsw X f δ (e :: es) (d :: ds) Ψ :=
  ⟨pgs_imp (pgs_cons h.h (pgs_uw (f := f)) hs) fun vs σ H Q ⟨T, hl, R, q⟩ => by
    cases vs with
    | nil => cases hl
    | cons v vs =>
      have hl' : vs.length = ds.length := by simpa using hl
      refine ⟨v, vs, rfl, vs.zip ds ++ T, ?_, fun δ1 σ1 H1 k R1 => ?_⟩
      · rw [tv_zip]
        exact R
      · rw [tv_zip] at R1
        exact ⟨δ1, ds, Ψ, k, T, hl', R1, q⟩⟩
theorem dgw_tup {k : Nat} {ds : List D} (B : Bd X N sc) (h : DGsw X f δ es ds Ψ) (hn : (assignEach es X.env).length = ds.length := by rfl) (hst : (assignEach es X.env).findIdx? (·.1) = none := by rfl) : DGw X f δ (.Tuple es k pos) (.tup ds) Ψ :=
  ⟨pg_imp (pg_tup B.calm h.h hn hst) fun v σ H Q ⟨T, R, q⟩ => by
    obtain ⟨a, vs, ev, hs, hl, R1⟩ := R.untup
    exact ⟨a, vs, ev, hs, hl, T, hl, R1, q⟩⟩
theorem ds_asgW (h : DE X f δ e fun r δ1 => ∃ d δ2, Take δ1 r d δ2 ∧ DGw X f δ2 tg d Φ.nx) (hs : swapsWithSole [tg] e pos.line X.env = pure false := by rfl) (hw : swappedStores [tg] e X.env = pure none := by rfl)
    (h1 : (assignEach [tg] X.env).map (·.2) = [assign tg X.env] := by rfl) : DS X f δ (.Assign [tg] e pos) Φ :=
  DS.of (ps_asg h.h (pg_uw (f := f)) hs hw h1) fun E σ H ⟨T, R, n, r, b, c⟩ => ⟨tv T, R, fun r' δ1 v H1 ⟨d, δ2, t, k⟩ R1 => ⟨δ2, d, _, k, T, t.rp R1, n⟩⟩
theorem g_DGw {d : D} {Ξ : Env → Prop} (h : DGw X f δ tg d Ξ) : DGw X f δ tg d Ξ := h
theorem g_DGsw {ds : List D} {Ξ : Env → Prop} (h : DGsw X f δ es ds Ξ) : DGsw X f δ es ds Ξ := h
end
/-! ### what the top leaves -/
def FnAt (K : PySem.W.Frag) (x : Str) (st : Stmt) : Prop := ∃ f fd, PySem.W.nsIn K mainGlobals x = some (some (.ref f)) ∧ L2.Fun K x x st f fd
theorem fnAt_mk {K : PySem.W.Frag} {x : Str} {st : Stmt} {f : Addr} {od an : Option Addr} {sl : Array (Option Value)} {oc kV dc pm cd ct : Value} (a : PySem.W.nsIn K mainGlobals x = some (some (.ref f)))
    (l : K.lookup f = some ⟨oc, od, .func (PySem.W.fnOf x x (defArgs st) (defBody st) (defScope st) .none kV dc pm an cd ct), sl⟩) (c : PySem.W.codeIn K cd x = true) (k : PySem.W.keepIn K (.ref f) = true) : FnAt K x st :=
  ⟨f, _, a, fun_mk l c k⟩
section
variable {Pr : Program} {w : World} {K : PySem.W.Frag} {mg : Str → Option Value} {base h : Heap}
theorem FnAt.g {k n : Nat} {x : Str} {st : Stmt} {ps : List Str} {pre : Pre} (F : FnAt K x st) (X : K.In h) (G : h.Ns mainGlobals mg) (hb : ∀ f fd, L2.Fun K x x st f fd → Binds K fd ps []) (hl : ps.length = n)
    (ok : ∀ f fd, L2.Fun K x x st f fd → FnOk Pr w K mg base CX0 k f fd ps (spD K n pre)) : GFn Pr w K mg base k x n pre := by
  obtain ⟨f, fd, a, F⟩ := F
  exact ⟨f, fd, ps, PySem.W.mg_of X G a, F.kp, hb f fd F, ok f fd F⟩
theorem globD_mk {x : Str} {u : Value} {v : V} {d : D} (X : K.In h) (G : h.Ns mainGlobals mg) (a : PySem.W.nsIn K mainGlobals x = some (some u)) (r : RelV v u) (l : leaf d = some v) : GlobD K mg x d :=
  ⟨imm_leaf l, v, u, PySem.W.mg_of X G a, r, fun H => .leaf l⟩
inductive KdEs : List DictEntry → List (Str × Str) → Prop
  | nil : KdEs [] []
  | cons {hsh : Int} {x y : Str} {t u : Tok} {es : List DictEntry} {tab : List (Str × Str)} : KdEs es tab → KdEs (⟨hsh, .str x t, .str y u⟩ :: es) ((x, y) :: tab)
theorem kdEs_find {z : Str} : ∀ {es : List DictEntry} {tab : List (Str × Str)}, KdEs es tab → es.any (·.refKey) = false ∧ ∃ r, es.find? (·.key.isStr z) = r ∧ r.isSome = (tab.lookup z).isSome ∧ ∀ y, tab.lookup z = some y → ∃ e, r = some e ∧ RelV (.str y) e.val
  | _, _, .nil => ⟨rfl, none, rfl, rfl, fun _ h => nomatch h⟩
  | _, _, @KdEs.cons hsh x y t u es tab h => by
    obtain ⟨h1, r, h2, h3, h4⟩ := kdEs_find (z := z) h
    refine ⟨by rw [List.any_cons, h1]; rfl, ?_⟩
    by_cases q : x = z
    · subst q
      refine ⟨some ⟨hsh, .str x t, .str y u⟩, ?_, ?_, fun y' e => ⟨_, rfl, ?_⟩⟩
      · rw [List.find?_cons]
        have : (DictEntry.mk hsh (.str x t) (.str y u)).key.isStr x = true := by simp [Value.isStr]
        rw [this]
      · simp [List.lookup]
      · have e' : y = y' := by simpa [List.lookup] using e
        subst e'
        exact ⟨u, rfl⟩
    · refine ⟨r, ?_, ?_, ?_⟩
      · rw [List.find?_cons]
        have : (DictEntry.mk hsh (.str x t) (.str y u)).key.isStr z = false := by simp [Value.isStr, q]
        rw [this]
        exact h2
      · have : (z == x) = false := by simp; exact fun e => q e.symm
        rw [h3, List.lookup_cons, this]
      · have : (z == x) = false := by simp; exact fun e => q e.symm
        rw [List.lookup_cons, this]
        exact h4
theorem kd_mk {x : Str} {a : Addr} {es : List DictEntry} {n : Nat} {tab : List (Str × Str)} (X : K.In h) (G : h.Ns mainGlobals mg) (h1 : PySem.W.nsIn K mainGlobals x = some (some (.ref a))) (h2 : K.lookup a = some ⟨.type "dict", none, .dict ⟨es⟩ n, #[]⟩)
    (h3 : PySem.W.KeysLit w.params es) (h4 : (a == sysModules) = false) (h5 : KdEs es tab) : KD K w mg x tab := by
  refine ⟨a, ⟨es⟩, n, PySem.W.mg_of X G h1, ⟨h2, h3, h4⟩, fun z => ?_⟩
  obtain ⟨q1, r, q2, q3, q4⟩ := kdEs_find (z := z) h5
  unfold PySem.W.nsIn
  rw [h2]
  show ∃ r, (match es.find? (·.key.isStr z) with
      | some e => some (some e.val)
      | none => if es.any (·.refKey) then none else some none) = some r ∧ _
  rw [q2, q1]
  cases r with
  | none => exact ⟨none, rfl, q3, fun y e => by obtain ⟨_, e1, _⟩ := q4 y e; cases e1⟩
  | some e => exact ⟨some e.val, rfl, q3, fun y e1 => by obtain ⟨e2, e3, e4⟩ := q4 y e1; cases e3; exact ⟨_, rfl, e4⟩⟩
end
end Dl

namespace Dl
open PySem L2
/-! ### walking over a list that stands in a slot -/
section
variable {X X' : Cx} {f : Fm} {δ : Env} {e a b c tg iter elt : Expr} {es rest tgs ifs : List Expr} {st : Stmt} {sts : List Stmt} {pos p2 : Pos} {Ψ : Rs → Env → Prop} {Φ : Ph}
variable {N : List Str} {sc scope : Scope} {Pr : Program} {w : World} {K : PySem.W.Frag} {mg : Str → Option Value} {base : Heap}
structure LcOkS (X : Cx) (N : List Str) (sc : Scope) (f : Fm) (tg elt : Expr) (ifs : List Expr) (own : List Nat) (Ψ : Rs → Env → Prop) (rs : List Rs) (ds : List D) (δ1 : Env) : Prop where
  ex : ∃ j : Nat, rs = [.s j] ∧ j ∉ own ∧ ds.length < sizeLine ∧ ∃ I : Nat → List D → Env → Prop, I 0 [] (clr δ1 own) ∧ (∀ i acc δ2 d, δ1[j]? = some (some d) → I i acc δ2 → δ2[j]? = some (some d)) ∧
      (∀ (i : Nat) (d : D) acc δ2, ds[i]? = some d → acc.length ≤ i → I i acc δ2 → Turn1 X N sc f tg elt ifs own d δ2 fun o δ3 => I (i + 1) (addO acc o) δ3) ∧ ∀ acc δ2, I ds.length acc δ2 → Ψ (.v (.lst acc)) δ2
theorem lc_readS {own : List Nat} (hp : ∀ j ∈ own, Unp f j) : ∀ σ H Q, tE X.K f δ Ψ σ H Q → tLc (tI X.K f δ (LcOkS X N (rl scope sc) f tg elt ifs own Ψ)) (bG X N (rl scope sc) f tg) (bT X N (rl scope sc) f ifs) (bE X N (rl scope sc) f elt) own σ H Q := by
  refine fun σ H Q ⟨T0, R0, q⟩ => ⟨T0, R0, fun rs ds es δ1 vs H1 J ⟨j0, hsl, hno, hsz, I, i0, ij, st, en⟩ hl he him R1 gv Dl hD => ?_⟩
  obtain ⟨v0, ev0, ez⟩ := one_of (T := T0) hsl hl
  subst ev0 hsl
  rw [ez] at R1
  have hv0 : σ[j0]? = some (some v0) := R1.tmp (v0, .s j0) (by simp) j0 rfl
  obtain ⟨d0, rfl, hd0⟩ : ∃ d0, es = [d0] ∧ δ1[j0]? = some (some d0) := by
    unfold rsvs at he
    unfold rsvs at he
    cases q : rsv δ1 (.s j0) with
    | none => rw [q] at he; cases he
    | some d => rw [q] at he; cases he; exact ⟨d, rfl, get_join q⟩
  have R1p : Rp X.K f H1 σ δ1 (tv (plain T0)) := by
    have := R1.tail.toPlain
    exact this
  have hwc : ∀ {σ : St}, (wipe σ own).length = σ.length := wipe_length _ _
  have hwg : ∀ {σ : St} (j : Nat), j ∉ own → (wipe σ own)[j]? = σ[j]? := fun j hj => by rw [wipe_get]; simp [hj]
  have hwv : (wipe σ own)[j0]? = some (some v0) := (hwg j0 hno).trans hv0
  have src : ∀ {H2 : Hp} {i : Nat} {acc : List D} {δ2 : Env} {T : List (V × Rs)}, I i acc δ2 → Rp X.K f H2 (wipe σ own) δ2 T → ∀ c ∈ [v0].zip [d0], ∃ F, OwnE X.K H2 c.1 c.2 F := fun k2 R2 c m => by
    have e : c = (v0, d0) := by simpa using m
    subst e
    exact R2.slotv (ij _ _ _ d0 hd0 k2) hwv
  -- the list under work at Dl, the sources, the rest
  refine ⟨fun i m H2 => m = ds.length - i ∧ i ≤ ds.length ∧ ∃ acc δ2, acc.length ≤ i ∧ I i acc δ2 ∧ Rp X.K f H2 (wipe σ own) δ2 (tv ((.ref Dl, .lst acc) :: (plain T0))),
    ⟨ds.length, by simp, Nat.zero_le _, [], _, Nat.le_refl _, i0, ?_⟩, ?_⟩
  · have R2 : Rp X.K f (upd H1 Dl (.lst [])) σ δ1 (tv ((.ref Dl, .lst []) :: (plain T0))) := Rp.newI (vs := []) R1p hD (show upd H1 Dl _ Dl = _ from upd_same) rfl fun c m => nomatch m
    exact R2.cleared hwc (fun j hj => hwg j hj) hp
  · rintro i m H2 ⟨rfl, hi, acc, δ2, hacc, k2, R2⟩
    obtain ⟨g1, g2⟩ := gv H2 (src k2 R2)
    by_cases hlt : i < ds.length
    · have hd : ds[i]? = some ds[i] := List.getElem?_eq_getElem hlt
      obtain ⟨gg, gy⟩ := g2 i _ hd
      refine .inr ⟨gg, fun H' => ∃ acc' δ', acc'.length ≤ i + 1 ∧ I (i + 1) acc' δ' ∧ Rp X.K f H' (wipe σ own) δ' (tv ((.ref Dl, .lst acc') :: (plain T0))), fun H' ⟨acc', δ', h1, k', R'⟩ => ⟨ds.length - (i + 1), by omega, rfl, hlt, acc', δ', h1, k', R'⟩, fun x H' y => ?_⟩
      obtain ⟨sm, F, o⟩ := gy x H' y
      have tn := st i _ acc δ2 hd hacc k2
      unfold Turn1 at tn
      refine ⟨δ2, _, own, _, tn, (.ref Dl, .lst acc) :: (plain T0), (R2.same sm).pushI o (him _ (List.getElem_mem _)), fun δ3 σ3 H3 k3 l3 s3 R3 => ⟨?_, δ3, _, k3, _, R3, fun t δ4 H4 k4 R4 => ?_⟩⟩
      · have w0 : wipe (wipe σ own) own = wipe σ own := wipe_eq hwc fun j hj => hwg j hj
        rw [wipe_eq l3 s3, w0]
      · have back : ∀ {H5 : Hp} {δ5 : Env} {acc' : List D}, Rp X.K f H5 σ3 δ5 (tv ((.ref Dl, .lst acc') :: (plain T0))) → Rp X.K f H5 (wipe σ own) (clr δ5 own) (tv ((.ref Dl, .lst acc') :: (plain T0))) := fun R5 => R5.cleared l3.symm (fun j hj => (s3 j hj).symm) hp
        cases t with
        | true =>
          show bE X N (rl scope sc) f elt σ3 H4 _
          refine ⟨δ4, _, k4.1 rfl, _, R4, fun r δ5 v5 H5 ⟨e, δ6, tk, k6⟩ R5 => ?_⟩
          have R6 := tk.rp R5
          have R7 : Rp X.K f H5 σ3 δ6 ((.ref Dl, .v (.lst acc)) :: ([(v5, Rs.v e)] ++ tv (plain T0))) := R6.perm (List.Perm.swap _ _ _)
          obtain ⟨ws, n1, l1, ch⟩ := R7.change rfl
          have l1' : ws.length = acc.length := l1
          refine ⟨ws, n1, by omega, addO acc (some e), _, ?_, k6, ?_⟩
          · show (acc ++ [e]).length ≤ i + 1
            simp; exact hacc
          · refine back (ch _ (.lst (acc ++ [e])) (ws ++ [v5]) (show upd H5 Dl _ Dl = _ from upd_same) rfl (by simp [kids, l1']) (fun F s => ?_) fun o u z => by rw [show H5 Dl = some (.lst ws) from n1] at z; cases z)
            show Sep _ ((ws ++ [v5]).zip (acc ++ [e])) F
            rw [zip_app l1']
            exact s
        | false =>
          show ∃ acc' δ', _
          exact ⟨acc, _, by omega, k4.2 rfl, back R4⟩
    · have e : i = ds.length := by omega
      subst e
      refine .inl ⟨g1, ?_⟩
      -- the sources dropped, the slots' references again
      have R3 := R2
      exact q _ _ _ _ (en acc δ2 k2) (Rp.ofPlain (R3.unwipe hp) R0)

theorem de_lcS {own : List (Str × Nat)} (B : Bd X N sc) (ok : BlkOk N sc scope own) (hp : ∀ j ∈ own.map (·.2), Unp f j)
    (h : DI X f δ tg iter (LcOkS X N (rl scope sc) f tg elt ifs (own.map (·.2)) Ψ)) (hs : ∀ x, foldedSetIterable iter X.env x = pure x := by intro _; rfl) : DE X f δ (.ListComp elt [⟨tg, iter, ifs, 0⟩] scope pos) Ψ :=
  DE.of (pe_lc (own := own) B.calm B.ndX h.h (by rw [B.eN, B.eS]; exact ok) (fun _ _ _ _ _ => bG_ok B) (fun _ _ _ _ _ => bT_ok B) (fun _ _ _ _ _ => bE_ok B) hs) (lc_readS hp)
theorem sw_of {gs : List Comprehension} {py : Pos} {y : Str} {l : Nat} (B : Bd X N sc) (hk : sc.kind = .function) (hy : Nm sc y .local) (hl : (py.line == pos.line) = true) (ha : (scope.names.any fun (n, k) => n == y && (k == .local || k == .cell)) = false) : swapsWith (.ListComp elt gs scope pos) (some (.Name y py)) l X.env = pure true :=
  sw_true (by rw [B.eS]; exact hk) (by rw [B.eS]; exact hy) hl ha
theorem sw_cell {gs : List Comprehension} {py : Pos} {y : Str} {l : Nat} (B : Bd X N sc) (hy : Nm sc y .cell) : swapsWith (.ListComp elt gs scope pos) (some (.Name y py)) l X.env = pure false := by
  have ky : X.env.kindOf y = some .cell := by
    show X.env.scope.names.lookup y = _
    rw [B.eS]
    exact hy
  unfold swapsWith
  simp only [ky]
  rw [show (some NameKind.cell == some NameKind.local) = false from rfl]
  simp
theorem g_setLc {gs : List Comprehension} {y : Str} (h : DS X f δ (.Assign [.Name y p2] (.ListComp elt gs scope pos) pos) Φ) : DS X f δ (.Assign [.Name y p2] (.ListComp elt gs scope pos) pos) Φ := h
theorem ds_setLcS {own : List (Str × Nat)} {i : Nat} {y : Str} {py spos : Pos} (B : Bd X N sc) (hi : Sl N i y) (hy : Nm sc y .local) (hu : Unp f i) (hsw : swapsWith (.ListComp elt [⟨tg, iter, ifs, 0⟩] scope pos) (some (.Name y py)) spos.line X.env = pure true) (ok : BlkOk N sc scope own) (hp : ∀ j ∈ own.map (·.2), Unp f j)
    (h : DI X f δ tg iter (LcOkS X N (rl scope sc) f tg elt ifs (own.map (·.2)) fun r δ1 => ∃ d δ2, Take δ1 r d δ2 ∧ Φ.nx (δ2.set i (some d)))) (hs : ∀ x, foldedSetIterable iter X.env x = pure x := by intro _; rfl) : DS X f δ (.Assign [.Name y py] (.ListComp elt [⟨tg, iter, ifs, 0⟩] scope pos) spos) Φ :=
  DS.of (ps_setLc (own := own) B.calm B.ndX (B.ix hi) (by rw [B.eS]; exact hy) hsw h.h (by rw [B.eN, B.eS]; exact ok) (fun _ _ _ _ _ => bG_ok B) (fun _ _ _ _ _ => bT_ok B) (fun _ _ _ _ _ => bE_ok B) hs) fun E σ H ⟨T, R, n, r, b, c⟩ =>
    lc_readS hp σ H _ ⟨tv T, R, fun r δ1 v H1 ⟨d, δ2, t, k⟩ R1 => n _ _ _ k ((t.rp R1).store hu tv_ns)⟩
theorem lc_fmS {own : List Nat} {rs : List Rs} {ds : List D} {δ1 : Env} (g : D → Option D) (j : Nat) (h0 : rs = [.s j]) (h1 : j ∉ own) (h2 : ds.length < sizeLine)
    (h3 : ∀ (i : Nat) (d : D), ds[i]? = some d → Turn1 X N sc f tg elt ifs own d (clr δ1 own) fun o δ3 => o = g d ∧ δ3 = clr δ1 own) (h4 : Ψ (.v (.lst (ds.filterMap g))) (clr δ1 own)) : LcOkS X N sc f tg elt ifs own Ψ rs ds δ1 := by
  refine ⟨⟨j, h0, h1, h2, fun i acc δ2 => acc = (ds.take i).filterMap g ∧ δ2 = clr δ1 own, ⟨by simp, rfl⟩, ?_, ?_, ?_⟩⟩
  · rintro i acc δ2 d hd ⟨_, rfl⟩
    rw [clr_get, if_neg (fun q => h1 q.1)]
    exact hd
  · rintro i d acc δ2 hd _ ⟨rfl, rfl⟩
    have hl : ds.take (i + 1) = ds.take i ++ [d] := by rw [List.take_add_one, hd]; rfl
    have fin : ∀ (o : Option D) (δ3 : Env), (o = g d ∧ δ3 = clr δ1 own) → addO ((ds.take i).filterMap g) o = (ds.take (i + 1)).filterMap g ∧ δ3 = clr δ1 own := by
      rintro o δ3 ⟨rfl, rfl⟩
      refine ⟨?_, rfl⟩
      rw [hl, List.filterMap_append]
      cases q : g d with
      | none => simp [addO, q]
      | some e => simp [addO, q]
    exact fun X' b B => (h3 i d hd X' b B).mono fun δ3 h => fun X' b B => ⟨pts_imp (h X' b B).h fun σ H Q ⟨T, R, q⟩ => ⟨T, R, fun t δ4 H' ⟨k1, k2⟩ => q t δ4 H' ⟨fun ht X' b B => (k1 ht X' b B).mono fun r δ5 ⟨e, δ6, tk, p⟩ => ⟨e, δ6, tk, fin _ _ p⟩, fun ht => fin _ _ (k2 ht)⟩⟩⟩
  · rintro acc δ2 ⟨rfl, rfl⟩
    rw [List.take_length]
    exact h4
theorem lc_mapS {own : List Nat} {rs : List Rs} {ds : List D} {δ1 : Env} (g : D → D) (j : Nat) (h0 : rs = [.s j]) (h1 : j ∉ own) (h2 : ds.length < sizeLine)
    (h3 : ∀ (i : Nat) (d : D), ds[i]? = some d → Turn1 X N sc f tg elt ifs own d (clr δ1 own) fun o δ3 => o = some (g d) ∧ δ3 = clr δ1 own) (h4 : Ψ (.v (.lst (ds.map g))) (clr δ1 own)) : LcOkS X N sc f tg elt ifs own Ψ rs ds δ1 := by
  refine lc_fmS (fun d => some (g d)) j h0 h1 h2 h3 ?_
  rw [show (fun d => some (g d)) = some ∘ g from rfl, List.filterMap_eq_map]
  exact h4
theorem lc_mapAS {α : Type} {own : List Nat} {rs : List Rs} {ds : List D} {δ1 : Env} (l : List α) (u g : α → D) (j : Nat) (hds : ds = l.map u) (h0 : rs = [.s j]) (h1 : j ∉ own) (h2 : l.length < sizeLine)
    (h3 : ∀ (i : Nat) (a : α), l[i]? = some a → Turn1 X N sc f tg elt ifs own (u a) (clr δ1 own) fun o δ3 => o = some (g a) ∧ δ3 = clr δ1 own) (h4 : Ψ (.v (.lst (l.map g))) (clr δ1 own)) : LcOkS X N sc f tg elt ifs own Ψ rs ds δ1 := by
  subst hds
  refine ⟨⟨j, h0, h1, by rw [List.length_map]; exact h2, fun i acc δ2 => acc = (l.take i).map g ∧ δ2 = clr δ1 own, ⟨by simp, rfl⟩, ?_, ?_, ?_⟩⟩
  · rintro i acc δ2 d hd ⟨_, rfl⟩
    rw [clr_get, if_neg (fun q => h1 q.1)]
    exact hd
  · rintro i d acc δ2 hd _ ⟨rfl, rfl⟩
    obtain ⟨a, ha, rfl⟩ := map_get hd
    have hl : l.take (i + 1) = l.take i ++ [a] := by rw [List.take_add_one, ha]; rfl
    have fin : ∀ (o : Option D) (δ3 : Env), (o = some (g a) ∧ δ3 = clr δ1 own) → addO ((l.take i).map g) o = (l.take (i + 1)).map g ∧ δ3 = clr δ1 own := by
      rintro o δ3 ⟨rfl, rfl⟩
      exact ⟨by rw [hl, List.map_append]; rfl, rfl⟩
    exact fun X' b B => (h3 i a ha X' b B).mono fun δ3 h => fun X' b B => ⟨pts_imp (h X' b B).h fun σ H Q ⟨T, R, q⟩ => ⟨T, R, fun t δ4 H' ⟨k1, k2⟩ => q t δ4 H' ⟨fun ht X' b B => (k1 ht X' b B).mono fun r δ5 ⟨e, δ6, tk, p⟩ => ⟨e, δ6, tk, fin _ _ p⟩, fun ht => fin _ _ (k2 ht)⟩⟩⟩
  · rintro acc δ2 ⟨rfl, rfl⟩
    rw [List.length_map, List.take_length]
    exact h4
def uG2 (X : Cx) (tg : Expr) : TG := fun v σ H Q => ∃ f δ d sl Ψ, DG X f δ tg d sl Ψ ∧ tG X.K f δ d sl Ψ v σ H Q
def uB2 (X : Cx) (sts : List Stmt) : TS := fun E σ H => ∃ f δ Φ, DB X f δ sts Φ ∧ tS X.K f δ Φ E σ H
theorem pg_u2 : PG X tg (uG2 X tg) := ⟨fun pins s σ H v u Q I r ⟨_, _, _, _, _, h, q⟩ => h.h.run pins s σ H v u Q I r q⟩
theorem pb_u2 : PSs X sts (uB2 X sts) := ⟨fun pins s σ H E I ⟨_, _, _, h, q⟩ => h.h.run pins s σ H E I q⟩
theorem lc_mapA {α : Type} {own : List Nat} {rs : List Rs} {ds : List D} {δ1 : Env} (l : List α) (u g : α → D) (hds : ds = l.map u) (h1 : slots rs = []) (h2 : l.length < sizeLine)
    (h3 : ∀ (i : Nat) (a : α), l[i]? = some a → Turn1 X N sc f tg elt ifs own (u a) (clr δ1 own) fun o δ3 => o = some (g a) ∧ δ3 = clr δ1 own) (h4 : Ψ (.v (.lst (l.map g))) (clr δ1 own)) : LcOk X N sc f tg elt ifs own Ψ rs ds δ1 := by
  subst hds
  refine ⟨h1, by rw [List.length_map]; exact h2, fun i acc δ2 => acc = (l.take i).map g ∧ δ2 = clr δ1 own, ⟨by simp, rfl⟩, ?_, ?_⟩
  · rintro i d acc δ2 hd _ ⟨rfl, rfl⟩
    obtain ⟨a, ha, rfl⟩ := map_get hd
    have hl : l.take (i + 1) = l.take i ++ [a] := by rw [List.take_add_one, ha]; rfl
    have fin : ∀ (o : Option D) (δ3 : Env), (o = some (g a) ∧ δ3 = clr δ1 own) → addO ((l.take i).map g) o = (l.take (i + 1)).map g ∧ δ3 = clr δ1 own := by
      rintro o δ3 ⟨rfl, rfl⟩
      exact ⟨by rw [hl, List.map_append]; rfl, rfl⟩
    exact fun X' b B => (h3 i a ha X' b B).mono fun δ3 h => fun X' b B => ⟨pts_imp (h X' b B).h fun σ H Q ⟨T, R, q⟩ => ⟨T, R, fun t δ4 H' ⟨k1, k2⟩ => q t δ4 H' ⟨fun ht X' b B => (k1 ht X' b B).mono fun r δ5 ⟨e, δ6, tk, p⟩ => ⟨e, δ6, tk, fin _ _ p⟩, fun ht => fin _ _ (k2 ht)⟩⟩⟩
  · rintro acc δ2 ⟨rfl, rfl⟩
    rw [List.length_map, List.take_length]
    exact h4
/-! a slot pinned while a loop runs -/
def Fm.pinned (f : Fm) (j : Nat) (v : V) : Fm := ⟨f.H0, f.F0, j :: f.pn, fun i => if i = j then v else f.pv i⟩
theorem Rp.pinJ {H : Hp} {σ : St} {T : List (V × Rs)} {j : Nat} {v : V} (R : Rp K f H σ δ T) (e : σ[j]? = some (some v)) : Rp K (f.pinned j v) H σ δ T := by
  refine ⟨R.len, R.has, R.own, R.tmp, R.fr, R.tx, fun i m => ?_⟩
  show σ[i]? = some (some (if i = j then v else f.pv i))
  by_cases q : i = j
  · rw [if_pos q, q]; exact e
  · rw [if_neg q]
    exact R.pin i ((List.mem_cons.mp m).resolve_left q)
theorem Rp.unpinJ {H : Hp} {σ : St} {T : List (V × Rs)} {j : Nat} {v : V} (hv : j ∈ f.pn → f.pv j = v) (R : Rp K (f.pinned j v) H σ δ T) : Rp K f H σ δ T := by
  refine ⟨R.len, R.has, R.own, R.tmp, R.fr, R.tx, fun i m => ?_⟩
  have h := R.pin i (List.mem_cons_of_mem _ m)
  have h2 : σ[i]? = some (some (if i = j then v else f.pv i)) := h
  by_cases q : i = j
  · rw [if_pos q] at h2
    subst q
    rw [hv m]
    exact h2
  · rw [if_neg q] at h2
    exact h2
/-- for target in xs: body, xs a list that stands in a slot -/
theorem ds_forS {body : List Stmt} (B : Bd X N sc) (h : DI X f δ tg iter fun rs ds δ1 => ∃ j : Nat, rs = [.s j] ∧ ∀ f' : Fm, f'.pn = j :: f.pn → ∃ I : Nat → Env → Prop, I 0 δ1 ∧ (∀ i δ2 d, δ1[j]? = some (some d) → I i δ2 → δ2[j]? = some (some d)) ∧
      (∀ (i : Nat) (d : D) δ2, ds[i]? = some d → I i δ2 → ∃ sl, DG X f' δ2 tg d sl fun δ3 => DB X f' δ3 body { nx := I (i + 1), rt := Φ.rt, bk := Φ.nx, ct := I (i + 1) }) ∧ ∀ δ2, I ds.length δ2 → Φ.nx δ2)
    (hs : ∀ x, foldedSetIterable iter X.env x = pure x := by intro _; rfl) : DS X f δ (.For tg iter body [] pos) Φ :=
  DS.of (ps_for B.pass B.calm h.h (pg_u2) (pb_u2) hs) fun E σ H ⟨T, R, n, r, b, c⟩ => ⟨tv T, R, fun rs ds es δ1 vs H1 J ⟨j, hsl, hh⟩ hl he him R1 g => by
    obtain ⟨v0, ev0, ez⟩ := one_of (T := tv T) hsl hl
    subst ev0 hsl
    rw [ez] at R1
    have hv0 : σ[j]? = some (some v0) := R1.tmp (v0, .s j) (by simp) j rfl
    obtain ⟨d0, rfl, hd0⟩ : ∃ d0, es = [d0] ∧ δ1[j]? = some (some d0) := by
      unfold rsvs at he
      unfold rsvs at he
      cases q : rsv δ1 (.s j) with
      | none => rw [q] at he; cases he
      | some d => rw [q] at he; cases he; exact ⟨d, rfl, get_join q⟩
    have hv : j ∈ f.pn → f.pv j = v0 := fun m => by
      have := R.pin j m
      rw [hv0] at this
      cases this
      rfl
    have R2 : Rp X.K (f.pinned j v0) H1 σ δ1 (tv T) := R1.tail.pinJ hv0
    obtain ⟨I, i0, ij, st, en⟩ := hh (f.pinned j v0) rfl
    have src : ∀ {H2 : Hp} {i : Nat} {σ2 : St} {δ2 : Env} {T : List (V × Rs)}, I i δ2 → Rp X.K (f.pinned j v0) H2 σ2 δ2 T → ∀ c ∈ [v0].zip [d0], ∃ F, OwnE X.K H2 c.1 c.2 F := fun k2 R2 c m => by
      have e : c = (v0, d0) := by simpa using m
      subst e
      have := R2.pin j (List.mem_cons_self ..)
      exact R2.slotv (ij _ _ d0 hd0 k2) (this.trans (by show some (some (if j = j then v0 else f.pv j)) = _; rw [if_pos rfl]))
    refine ⟨fun i m σ2 H2 => m = ds.length - i ∧ i ≤ ds.length ∧ ∃ δ2, I i δ2 ∧ Rp X.K (f.pinned j v0) H2 σ2 δ2 (tv T), ⟨ds.length, by simp, Nat.zero_le _, δ1, i0, R2⟩, ?_⟩
    rintro i m σ2 H2 ⟨rfl, hi, δ2, k2, R2⟩
    obtain ⟨g1, g2⟩ := g H2 (src k2 R2)
    by_cases hlt : i < ds.length
    · have hd : ds[i]? = some ds[i] := List.getElem?_eq_getElem hlt
      obtain ⟨gg, gy⟩ := g2 i _ hd
      refine .inr ⟨gg, fun σ' H' => ∃ δ', I (i + 1) δ' ∧ Rp X.K (f.pinned j v0) H' σ' δ' (tv T), fun σ' H' ⟨δ', k', R'⟩ => ⟨ds.length - (i + 1), by omega, rfl, hlt, δ', k', R'⟩, fun x H' y => ?_⟩
      obtain ⟨sm, F, o⟩ := gy x H' y
      obtain ⟨sl, hg⟩ := st i _ δ2 hd k2
      refine ⟨_, δ2, _, sl, _, hg, T, (R2.same sm).pushI o (him _ (List.getElem_mem _)), fun δ3 σ3 H3 k3 _ _ R3 => ⟨_, δ3, _, k3, T, R3, fun δ' σ' H' k R' => ⟨δ', k, R'⟩, fun d δ' v σ' H' k R' => r d δ' v σ' H' k (R'.unpinJ hv), fun δ' σ' H' k R' => n δ' σ' H' k (R'.unpinJ hv), fun δ' σ' H' k R' => ⟨δ', k, R'⟩⟩⟩
    · have e : i = ds.length := by omega
      subst e
      exact .inl ⟨g1, n δ2 σ2 H2 (en δ2 k2) (R2.unpinJ hv)⟩⟩
end
theorem atI_succ {α : Type} {x : α} {xs : List α} {i : Nat} (h : i < xs.length) : atI (x :: xs) (1 + (i : Int)) = xs[i]? := by
  unfold atI ixN
  rw [if_pos (by omega), if_pos (by simp; omega)]
  show (x :: xs)[(1 + (i : Int)).toNat]? = _
  rw [show (1 + (i : Int)).toNat = i + 1 by omega]
  rfl
theorem atI_getD {l : List Int} {a : Int} (h0 : 0 ≤ a) (h1 : a < (l.length : Int)) : atI (l.map D.int) a = some (.int (l.getD a.toNat 0)) := by
  obtain ⟨j, hj, e, q⟩ := atI_of (l := l.map D.int) h0 (by simpa using h1)
  rw [q, List.getElem_map, List.getD_eq_getElem?_getD, e, Int.toNat_natCast, List.getElem?_eq_getElem (by simpa using hj)]
  rfl
theorem getD_mem {l : List Int} {a : Nat} (h1 : a < l.length) : l.getD a 0 ∈ l := by
  rw [List.getD_eq_getElem?_getD, List.getElem?_eq_getElem h1]
  exact List.getElem_mem h1
theorem cutA_first {α : Type} {x : α} {xs : List α} : cutA (x :: xs) none (some 1) = [x] := by
  unfold cutA HT.sIx
  simp
theorem cutA1_len {α : Type} {xs : List α} : (cutA xs (some 1) none).length = xs.length - 1 := by
  cases xs with
  | nil => rfl
  | cons x xs => rw [cutA_tail]; simp
/-! a, b = x, y -/
section
variable {X : Cx} {f : Fm} {δ : Env} {a b : Expr} {pos : Pos} {Φ : Ph} {N : List Str} {sc : Scope}
def starQ : Expr → Bool
  | .Starred .. => true
  | _ => false
def nmQ (env : PySem.Env) (l : Nat) : Expr → Option Str
  | .Name id pos => if env.kindOf id == some .local && pos.line == l then some id else none
  | _ => none
theorem sw_par {x y : Str} {px py pt : Pos} {kt k2 pt2} (B : Bd X N sc) (hk : sc.kind = .function) (hx : Nm sc x .local) (hy : Nm sc y .local) (hl : (py.line == px.line) = true) (hd : ([x, y].eraseDups.length != 2) = false)
    (h1 : [a, b].any starQ = false) (h2 : [a, b].all (foldedForSure 8) = false) (h3 : [a, b].all (constantsAlone 8) = false) : swappedStores [.Tuple [.Name x px, .Name y py] kt pt] (.Tuple [a, b] k2 pt2) X.env = pure (some [x, y]) := by
  have kx : X.env.kindOf x = some .local := by
    show X.env.scope.names.lookup x = _
    rw [B.eS]
    exact hx
  have ky : X.env.kindOf y = some .local := by
    show X.env.scope.names.lookup y = _
    rw [B.eS]
    exact hy
  have hb : X.env.blockKind = .function := by unfold Env.blockKind; rw [B.eS, hk]; rfl
  have hn : [Expr.Name x px, Expr.Name y py].filterMap (nmQ X.env px.line) = [x, y] := by
    have e1 : nmQ X.env px.line (Expr.Name x px) = some x := by
      show (if (X.env.kindOf x == some .local && px.line == px.line) = true then some x else none) = some x
      rw [kx]; simp
    have e2 : nmQ X.env px.line (Expr.Name y py) = some y := by
      show (if (X.env.kindOf y == some .local && py.line == px.line) = true then some y else none) = some y
      rw [ky, hl]; simp
    rw [List.filterMap_cons, e1, List.filterMap_cons, e2]
    rfl
  have q : swappedStores [.Tuple [.Name x px, .Name y py] kt pt] (.Tuple [a, b] k2 pt2) X.env = (if (!(2 == 2 || 2 == 3) || 2 != 2 || X.env.blockKind != .function) = true then pure none else
      if [a, b].any starQ = true then pure none else
      if (([Expr.Name x px, Expr.Name y py].filterMap (nmQ X.env px.line)).length != 2 || ([Expr.Name x px, Expr.Name y py].filterMap (nmQ X.env px.line)).eraseDups.length != ([Expr.Name x px, Expr.Name y py].filterMap (nmQ X.env px.line)).length) = true then pure none else
      if [a, b].all (foldedForSure 8) = true then pure none else
      if [a, b].all (constantsAlone 8) = true then unsupported "assign.tuple-of-constant-expressions:order-of-the-stores" else
      pure (some ([Expr.Name x px, Expr.Name y py].filterMap (nmQ X.env px.line)))) := by
    unfold swappedStores
    rfl
  rw [q, hb, hn, h1, h2, h3]
  rw [if_neg (by decide), if_neg (by decide), if_neg, if_neg (by decide), if_neg (by decide)]
  show ¬ ((2 != 2 || [x, y].eraseDups.length != 2) = true)
  rw [hd]
  decide
theorem ds_par {i j : Nat} {x y : Str} {px py pt : Pos} {kt k2 pt2} (B : Bd X N sc) (hi : Sl N i x) (hj : Sl N j y) (hij : (i != j) = true) (hx : Nm sc x .local) (hy : Nm sc y .local) (ui : Unp f i) (uj : Unp f j)
    (h : DA X f δ [a, b] fun rs δ1 => ∃ ra rb da db δ2 δ3, rs = [ra, rb] ∧ Take δ1 ra da δ2 ∧ Take δ2 rb db δ3 ∧ Φ.nx ((δ3.set i (some da)).set j (some db)))
    (hw : swappedStores [.Tuple [.Name x px, .Name y py] kt pt] (.Tuple [a, b] k2 pt2) X.env = pure (some [x, y]))
    (hs : swapsWithSole [.Tuple [.Name x px, .Name y py] kt pt] (.Tuple [a, b] k2 pt2) pos.line X.env = pure false := by rfl) :
    DS X f δ (.Assign [.Tuple [.Name x px, .Name y py] kt pt] (.Tuple [a, b] k2 pt2) pos) Φ :=
  DS.of (ps_par B.calm B.ndX (B.ix hi) (B.ix hj) (by simpa using hij) (by rw [B.eS]; exact hx) (by rw [B.eS]; exact hy) h.h hw hs) fun E σ H ⟨T, R, n, r, b, c⟩ => ⟨tv T, R, fun rs δ1 vs H1 ⟨ra, rb, da, db, δ2, δ3, er, t1, t2, k⟩ hl R1 => by
    obtain ⟨v, w, ev, ez⟩ := two_of (T := tv T) er hl
    subst ev er
    rw [ez] at R1
    have R2 := t2.rp ((t1.rp R1).perm (List.Perm.swap _ _ _))
    have R3 : Rp X.K f H1 σ δ3 ((v, .v da) :: tv ((w, db) :: T)) := R2.perm (List.Perm.swap _ _ _)
    have R4 := R3.store ui tv_ns
    exact ⟨v, w, rfl, n _ _ _ k (Rp.store (T := tv T) R4 uj tv_ns)⟩⟩
end
theorem ixN_last (n : Nat) : ixN (n + 1) (-1) = some n := by
  unfold ixN
  rw [if_neg (by decide), if_pos (by omega)]
  congr 1
  omega
theorem atI_last {α : Type} {xs : List α} {y : α} : atI (xs ++ [y]) (-1) = some y := by
  unfold atI
  rw [List.length_append, List.length_singleton, ixN_last]
  simp
theorem last_of {α : Type} {l : List α} (h : 1 ≤ l.length) : ∃ ys y, l = ys ++ [y] := by
  rcases List.eq_nil_or_concat l with rfl | ⟨ys, y, rfl⟩
  · cases h
  · exact ⟨ys, y, by simp⟩
theorem set_last {α : Type} {xs : List α} {y z : α} : (xs ++ [y]).set xs.length z = xs ++ [z] := by
  rw [List.set_append_right _ _ (Nat.le_refl _)]
  simp
/-! ### texts of numbers -/
theorem sum_le {ys : List Str} {m : Nat} (h : ∀ y ∈ ys, y.length ≤ m) : (ys.map (·.length)).sum ≤ ys.length * m := by
  induction ys with
  | nil => simp
  | cons y ys ih =>
    have h1 := h y List.mem_cons_self
    have h2 := ih fun z hz => h z (List.mem_cons_of_mem _ hz)
    simp only [List.map_cons, List.sum_cons, List.length_cons, Nat.add_mul]
    omega
theorem joinL_len (s : List Nat) : ∀ ys : List (List Nat), (TL.joinL s ys).length ≤ (ys.map (·.length)).sum + ys.length * s.length
  | [] => by simp [TL.joinL]
  | [p] => by simp [TL.joinL]
  | p :: q :: r => by
    have ih := joinL_len s (q :: r)
    show (p ++ (s ++ TL.joinL s (q :: r))).length ≤ _
    simp only [List.map_cons, List.sum_cons, List.length_cons, List.length_append, Nat.add_mul] at ih ⊢
    omega
theorem join_len {s : Str} {ys : List Str} : (Txt.join s ys).length ≤ (ys.map (·.length)).sum + ys.length * s.length := by
  rw [TL.join_eq, TL.len_tl, TL.tl_join]
  have h := joinL_len (TL.tl s) (ys.map TL.tl)
  rw [List.map_map, List.length_map, show ((fun x : List Nat => x.length) ∘ TL.tl) = fun x : Str => x.length from funext fun x => (TL.len_tl x).symm, ← TL.len_tl] at h
  exact h
theorem join_bd {s : Str} {ys : List Str} {m n : Nat} (h : ∀ y ∈ ys, y.length ≤ m) (hn : ys.length ≤ n) : (ys.map (·.length)).sum + ys.length * s.length ≤ n * (m + s.length) := by
  have h1 := sum_le h
  have h2 : ys.length * (m + s.length) ≤ n * (m + s.length) := Nat.mul_le_mul_right _ hn
  rw [Nat.mul_add] at h2
  omega
theorem lg_small {q : Int} (h1 : -1000000000 ≤ q) (h2 : q ≤ 1000000000) : q.natAbs.log2 < 1920 := by
  by_cases h : q.natAbs = 0
  · rw [h]; decide
  · rw [Nat.log2_lt h]
    exact Nat.lt_of_lt_of_le (show q.natAbs < 2 ^ 30 by omega) (Nat.pow_le_pow_right (by decide) (by decide))
def numW (i : Int) : Str := Str.ofString (toString i)
theorem numW_nat (n : Nat) : numW (n : Int) = SX.S (TL.numL n) := by
  have h := TL.tl_num n
  exact (SX.S_tl _).symm.trans (congrArg SX.S h)
theorem numW_neg (m : Nat) : numW (Int.negSucc m) = SX.S (45 :: TL.numL (m + 1)) := by
  refine (SX.S_tl _).symm.trans (congrArg SX.S ?_)
  unfold numW
  rw [PyProof.Rows.signs_ofString]
  show ("-" ++ Nat.repr (m + 1)).toList.map Char.toNat = _
  rw [String.toList_append, List.map_append, Nat.toList_repr]
  rfl
theorem numL_head {n : Nat} {l : List Nat} (h : TL.numL n = 48 :: l) : n = 0 := by
  induction n using Nat.strongRecOn generalizing l with
  | _ n ih =>
    by_cases q : n < 10
    · rw [TL.numL_lt q] at h
      have := (List.cons.inj h).1
      omega
    · rw [TL.numL_step (by omega)] at h
      cases e : TL.numL (n / 10) with
      | nil => exact absurd e (TL.numL_ne _)
      | cons c r =>
        rw [e] at h
        have h1 := (List.cons.inj h).1
        subst h1
        have := ih (n / 10) (by omega) e
        omega
theorem cutS_tail {c : Nat} {l : List Nat} : cutS (SX.S (c :: l)) (some 1) none = SX.S l := by
  unfold cutS HT.sIx SX.S
  simp [Str.length]
theorem cutS_one {c : Nat} {l : List Nat} : cutS (SX.S (c :: l)) none (some 1) = SX.S [c] := by
  unfold cutS HT.sIx SX.S
  simp [Str.length]
theorem numW_val {i : Int} (h : i.natAbs < 10 ^ 9) : intText? (numW i) = some i ∧ (numW i).length ≤ 640 := by
  cases i with
  | ofNat n =>
    have hl := TL.numL_len (n := n) (k := 9) (by decide) h
    have e := TL.int_num (n := n) (by omega)
    refine ⟨e, ?_⟩
    rw [show numW (Int.ofNat n) = SX.S (TL.numL n) from numW_nat n, SX.S_len]
    omega
  | negSucc m =>
    have hl := TL.numL_len (n := m + 1) (k := 9) (by decide) h
    have e := intText_neg (x := SX.S (45 :: TL.numL (m + 1))) (cs := TL.numL (m + 1)) rfl (TL.numL_digits _) (TL.numL_ne _) (by rw [SX.S_len, List.length_cons]; omega)
    rw [numW_neg]
    refine ⟨?_, by rw [SX.S_len, List.length_cons]; omega⟩
    rw [e, TL.numL_val]
    rfl
end Dl

namespace Dl
open PySem L2
def preLaw : Pre := fun ds Φ => ∃ sc : List Int, ds = [.fz (sc.map .int)] ∧ sc.length ≤ 63 ∧ Φ (.bl true) ds
theorem sep_ints {K : PySem.W.Frag} {H : Hp} {F : Fp} : ∀ ns : List Int, Sep (OwnE K H) ((ns.map V.int).zip (ns.map D.int)) F
  | [] => trivial
  | n :: ns => ⟨fun _ => False, fun _ => False, .int, sep_ints ns, fun _ q => q.elim, fun _ q => q.elim, fun _ q => q.elim⟩
theorem spD_law {K : PySem.W.Frag} {H : Hp} {a : Addr} {ns : List Int} (hl : ns.length ≤ 63) (o : Only H) (hs : SqL K H a (ns.map V.int)) (E : XK) : spD K 1 preLaw [.ref a] H (fun v _ => v = .bl true) E := by
  have fz : Fzl K H a (ns.map V.int) := by
    rcases hs with (h | h) | h
    · rcases o a with q | ⟨oo, xs, q⟩
      · rw [q] at h; cases h
      · rw [q] at h; cases h
    · exact .inl h
    · exact .inr h
  refine ⟨[.fz (ns.map .int)], fun _ => False, rfl, rfl, ?_, fun r _ => r = .bl true, ⟨ns, rfl, hl, rfl⟩, ?_⟩
  · exact ⟨fun _ => False, fun _ => False, OwnE.node (F' := fun _ => False) fz (by simp [kids]) (sep_ints ns) (fun _ q => q) (fun q => nomatch q), trivial, fun _ q => q.elim, fun _ q => q, fun _ q => q⟩
  · rintro r ds' v H' rfl p
    obtain ⟨F', s, _⟩ := p.own
    obtain ⟨F1, F2, h1, _⟩ := s
    exact h1.of_bl
theorem Fun.bindsTo {K : PySem.W.Frag} {x qual p : Str} {st : Stmt} {f : Addr} {fd : FuncData} (F : L2.Fun K x qual st f fd) (h : ∀ (kV doc pm : Value) (an : Option Addr) (cdv ct : Value) (v : Value), bindArgs (PySem.W.fnOf x qual (defArgs st) (defBody st) (defScope st) .none kV doc pm an cdv ct) ⟨[v], []⟩ = pure [(p, v)]) (s : Shared) (v : Value) : BindsTo s fd ⟨[v], []⟩ [(p, v)] := by
  obtain ⟨oc, od, kV, doc, pm, an, cdv, ct, osl, rfl, _⟩ := F.ex
  exact .of_eq (h kV doc pm an cdv ct v)
end Dl

namespace Dl
open PySem L2
def top (i : Nat) : Stmt := PySem.Challenge.pw_drumlay_k20_texts.main.body.getD i (.Pass ⟨0, 0, 0, 0⟩)
abbrev s_is_number : Stmt := top 9
abbrev n_is_number : List Str := ["thing"]
abbrev p_is_number : List Str := ["thing"]
theorem sc_is_number : FnScope n_is_number p_is_number (defScope s_is_number) := ⟨rfl, rfl, rfl, by decide +kernel, rfl, by decide +kernel, by decide +kernel⟩
abbrev s_why_row : Stmt := top 10
abbrev n_why_row : List Str := ["row", "worths", "rows", "shape", "kind", "part"]
abbrev p_why_row : List Str := ["row", "worths", "rows"]
theorem sc_why_row : FnScope n_why_row p_why_row (defScope s_why_row) := ⟨rfl, rfl, rfl, by decide +kernel, rfl, by decide +kernel, by decide +kernel⟩
abbrev s_need_program : Stmt := top 11
abbrev n_need_program : List Str := ["program", "worths", "rows", "number", "row", "why", "worth"]
abbrev p_need_program : List Str := ["program"]
theorem sc_need_program : FnScope n_need_program p_need_program (defScope s_need_program) := ⟨rfl, rfl, rfl, by decide +kernel, rfl, by decide +kernel, by decide +kernel⟩
abbrev s_written : Stmt := top 16
abbrev n_written : List Str := ["program", "lines", "row", "worth", "part"]
abbrev p_written : List Str := ["program"]
theorem sc_written : FnScope n_written p_written (defScope s_written) := ⟨rfl, rfl, rfl, by decide +kernel, rfl, by decide +kernel, by decide +kernel⟩
abbrev s_number_of : Stmt := top 17
abbrev n_number_of : List Str := ["word", "size", "sign"]
abbrev p_number_of : List Str := ["word"]
theorem sc_number_of : FnScope n_number_of p_number_of (defScope s_number_of) := ⟨rfl, rfl, rfl, by decide +kernel, rfl, by decide +kernel, by decide +kernel⟩
abbrev s_numbers_of : Stmt := top 18
abbrev n_numbers_of : List Str := ["words", "line", "found", "word"]
abbrev p_numbers_of : List Str := ["words", "line"]
theorem sc_numbers_of : FnScope n_numbers_of p_numbers_of (defScope s_numbers_of) := ⟨rfl, rfl, rfl, by decide +kernel, rfl, by decide +kernel, by decide +kernel⟩
abbrev s_read : Stmt := top 19
abbrev n_read : List Str := ["text", "lines", "words", "worths", "rows", "number", "line", "program"]
abbrev p_read : List Str := ["text"]
theorem sc_read : FnScope n_read p_read (defScope s_read) := ⟨rfl, rfl, rfl, by decide +kernel, rfl, by decide +kernel, by decide +kernel⟩
abbrev s_l_dice : Stmt := top 21
abbrev n_l_dice : List Str := ["_law_script", "_law_mixed_here", "_law_cell"]
abbrev p_l_dice : List Str := ["_law_script"]
theorem sc_l_dice : FnScope n_l_dice p_l_dice (defScope s_l_dice) := ⟨rfl, rfl, rfl, by decide +kernel, rfl, by decide +kernel, by decide +kernel⟩
abbrev s_l_next : Stmt := top 22
abbrev n_l_next : List Str := ["_law_dice_here", "_law_many", "_law_found", "_law_cell"]
abbrev p_l_next : List Str := ["_law_dice_here", "_law_many"]
theorem sc_l_next : FnScope n_l_next p_l_next (defScope s_l_next) := ⟨rfl, rfl, rfl, by decide +kernel, rfl, by decide +kernel, by decide +kernel⟩
abbrev s_l_like : Stmt := top 23
abbrev n_l_like : List Str := ["_law_found", "_law_due", "_law_k"]
abbrev p_l_like : List Str := ["_law_found", "_law_due"]
theorem sc_l_like : FnScope n_l_like p_l_like (defScope s_l_like) := ⟨rfl, rfl, rfl, by decide +kernel, rfl, by decide +kernel, by decide +kernel⟩
abbrev s_l_straight : Stmt := top 24
abbrev n_l_straight : List Str := ["_law_d", "_law_at", "_law_way"]
abbrev p_l_straight : List Str := ["_law_d", "_law_at"]
theorem sc_l_straight : FnScope n_l_straight p_l_straight (defScope s_l_straight) := ⟨rfl, rfl, rfl, by decide +kernel, rfl, by decide +kernel, by decide +kernel⟩
abbrev s_l_fork : Stmt := top 25
abbrev n_l_fork : List Str := ["_law_d", "_law_at", "_law_yes", "_law_begin", "_law_no", "_law_k"]
abbrev p_l_fork : List Str := ["_law_d", "_law_at"]
theorem sc_l_fork : FnScope n_l_fork p_l_fork (defScope s_l_fork) := ⟨rfl, rfl, rfl, by decide +kernel, rfl, by decide +kernel, by decide +kernel⟩
abbrev s_l_body : Stmt := top 26
abbrev n_l_body : List Str := ["_law_d", "_law_at", "_law_deep", "_law_found", "_law_turn", "_law_here", "_law_way", "_law_inner", "_law_behind"]
abbrev p_l_body : List Str := ["_law_d", "_law_at", "_law_deep"]
theorem sc_l_body : FnScope n_l_body p_l_body (defScope s_l_body) := ⟨rfl, rfl, rfl, by decide +kernel, rfl, by decide +kernel, by decide +kernel⟩
abbrev s_l_mixed : Stmt := top 27
abbrev n_l_mixed : List Str := ["_law_d", "_law_program", "_law_worths", "_law_rows", "_law_left", "_law_names", "_law_numbers", "_law_found", "_law_number", "_law_row", "_law_told", "_law_k", "_law_is_worth", "_law_order", "_law_worth"]
abbrev p_l_mixed : List Str := ["_law_d", "_law_program"]
theorem sc_l_mixed : FnScope n_l_mixed p_l_mixed (defScope s_l_mixed) := ⟨rfl, rfl, rfl, by decide +kernel, rfl, by decide +kernel, by decide +kernel⟩
abbrev s_l_stopping : Stmt := top 28
abbrev n_l_stopping : List Str := ["_law_d", "_law_deep", "_law_worths", "_law_rows", "_law_program", "_law_k"]
abbrev p_l_stopping : List Str := ["_law_d", "_law_deep"]
theorem sc_l_stopping : FnScope n_l_stopping p_l_stopping (defScope s_l_stopping) := ⟨rfl, rfl, rfl, by decide +kernel, rfl, by decide +kernel, by decide +kernel⟩
abbrev s_l_any : Stmt := top 29
abbrev n_l_any : List Str := ["_law_d", "_law_many", "_law_rows", "_law_worths", "_law_size", "_law_number", "_law_near", "_law_way", "_law_k"]
abbrev p_l_any : List Str := ["_law_d"]
theorem sc_l_any : FnScope n_l_any p_l_any (defScope s_l_any) := ⟨rfl, rfl, rfl, by decide +kernel, rfl, by decide +kernel, by decide +kernel⟩
abbrev s_law : Stmt := top 30
abbrev n_law : List Str := ["_law_script", "_law_d", "_law_turn", "_law_worths", "_law_rows", "_law_lines", "_law_text", "_law_row", "_law_worth", "_law_part"]
abbrev p_law : List Str := ["_law_script"]
theorem sc_law : FnScope n_law p_law (defScope s_law) := ⟨rfl, rfl, rfl, by decide +kernel, rfl, by decide +kernel, by decide +kernel⟩
local macro_rules | `(tactic| walk_at "mul") => `(tactic| first | assumption | (left; constructor <;> omega) | (right; constructor <;> omega))
local macro_rules | `(tactic| walk_at "kb") => `(tactic| with_reducible first | exact kb_NoneType_bool | exact kb_NoneType_str | exact kb_NoneType_int | exact kb_NoneType_tuple | exact kb_NoneType_list | exact kb_NoneType_dict | exact kb_bool_bool | exact kb_bool_str | exact kb_bool_int | exact kb_bool_tuple | exact kb_bool_list | exact kb_bool_dict | exact kb_int_bool | exact kb_int_str | exact kb_int_int | exact kb_int_tuple | exact kb_int_list | exact kb_int_dict | exact kb_str_bool | exact kb_str_str | exact kb_str_int | exact kb_str_tuple | exact kb_str_list | exact kb_str_dict | exact kb_tuple_bool | exact kb_tuple_str | exact kb_tuple_int | exact kb_tuple_tuple | exact kb_tuple_list | exact kb_tuple_dict | exact kb_list_bool | exact kb_list_str | exact kb_list_int | exact kb_list_tuple | exact kb_list_list | exact kb_list_dict | exact kb_dict_bool | exact kb_dict_str | exact kb_dict_int | exact kb_dict_tuple | exact kb_dict_list | exact kb_dict_dict)
local macro_rules | `(tactic| walk_at "nm") => `(tactic| first | with_reducible assumption | exact rfl)
local macro_rules | `(tactic| walk_at "vis") => `(tactic| first | exact Nm.vis (k := .local) (by with_reducible assumption) rfl | exact Nm.vis (k := .cell) (by with_reducible assumption) rfl | exact Nm.vis (k := .free) (by with_reducible assumption) rfl | exact Nm.vis (k := .local) (by exact rfl) rfl | exact Nm.vis (k := .cell) (by exact rfl) rfl | exact Nm.vis (k := .free) (by exact rfl) rfl)
local macro_rules | `(tactic| walk_at "sto") => `(tactic| first | exact Nm.sto (by with_reducible assumption) | exact Nm.stoC (by with_reducible assumption) (by assumption) | exact Nm.sto (by exact rfl))
local macro_rules | `(tactic| walk_at "imm") => `(tactic| with_reducible repeat' (first | exact imm_int | exact imm_str | exact imm_bl | exact imm_non | exact imm_opq | exact imm_nil | assumption | refine imm_cons ?_ ?_ | refine imm_tup ?_ | refine imm_cut ?_ | exact imm_fzi | refine imm_app ?_ ?_ | assumption | exact imm_map fun _ => imm_int | exact imm_strsD | exact rngD_imm))
local macro_rules | `(tactic| walk_at "imm1") => `(tactic| ((walk_at "imm"); done))
local macro_rules | `(tactic| walk_at "pin") => `(tactic| first | assumption | exact unp_of (by assumption) (by rfl))
local macro_rules | `(tactic| walk_at "room") => `(tactic| first | assumption | exact Room.mono (by assumption) (by decide))
local macro_rules | `(tactic| walk_at "sz") => `(tactic| first | assumption | decide | (rw [sizeLine_eq]; simp; done) | (rw [sizeLine_eq]; simp; omega))
local macro_rules | `(tactic| walk_at "takes") => `(tactic| repeat (first | exact Takes.nil | apply Takes.cons Take.v | apply Takes.cons (Take.s (by rfl))))
local macro_rules | `(tactic| walk_at "shp") => `(tactic| repeat' (first | exact shp_int | exact shp_bl | exact shp_non | assumption | refine shp_lst ?_ | refine shp_tup ?_ | exact shp_all_nil | refine shp_all_cons ?_ ?_ | exact shp_all_map fun _ => shp_int))
local macro_rules | `(tactic| walk_at "DE") => `(tactic| first
  | (refine g_name ?_; first
    | refine de_name (by assumption) (by with_reducible assumption) (by walk_at "vis") (by rfl) (by walk_at "imm1") ?_
    | refine de_slot (by assumption) (by with_reducible assumption) (by walk_at "vis") (by rfl) ?_
    | refine de_glob (by assumption) (by assumption) (by walk_at "nm") (by with_reducible assumption) ?_
    | refine de_tyName (by assumption) (by assumption) (by walk_at "nm") (by with_reducible assumption) (by rfl) ?_)
  | refine de_int ?_
  | refine de_str ?_
  | refine de_bl ?_
  | refine de_non ?_
  | (refine g_slice ?_; refine de_slice ?_)
  | (refine g_ixN ?_; refine de_ixKD (by assumption) (by assumption) (by walk_at "nm") (by with_reducible assumption) ?_)
  | (refine g_ix ?_; refine de_ix ?_)
  | refine de_add ?_
  | refine de_sub ?_
  | refine de_mulG ?_
  | refine de_mod ?_
  | refine de_fdiv ?_
  | refine de_pow ?_
  | refine de_neg ?_
  | refine de_if ?_
  | refine de_tup ?_
  | refine de_list ?_
  | refine de_and ?_
  | refine de_or ?_
  | refine de_bone ?_
  | refine de_not ?_
  | (refine g_callN ?_; first
    | (refine g_len ?_; refine de_len (by assumption) (by assumption) (by walk_at "nm") (by with_reducible assumption) ?_)
    | (refine g_isi ?_; refine de_isi (by assumption) (by assumption) (by walk_at "nm") (by with_reducible assumption) ?_)
    | (refine g_int ?_; refine de_intc (by assumption) (by assumption) (by walk_at "nm") (by with_reducible assumption) ?_)
    | (refine g_strc ?_; refine de_strc (by assumption) (by assumption) (by walk_at "nm") (by with_reducible assumption) ?_)
    | (refine g_list ?_; first
      | refine de_listRg (by assumption) (by assumption) (by walk_at "nm") (by with_reducible assumption) (by walk_at "nm") (by with_reducible assumption) ?_
      | refine de_listRg2 (by assumption) (by assumption) (by walk_at "nm") (by with_reducible assumption) (by walk_at "nm") (by with_reducible assumption) ?_
      | refine de_listc (by assumption) (by assumption) (by walk_at "nm") (by with_reducible assumption) ?_)
    | (refine g_tuple ?_; refine de_tuplec (by assumption) (by assumption) (by walk_at "nm") (by with_reducible assumption) ?_)
    | (refine de_call (by assumption) (by assumption) (by with_reducible assumption) ?hroom (by walk_at "nm") ?_; (case hroom => walk_at "room")))
  | (refine g_callA ?_; first
    | (refine g_append ?_; refine de_append ?_)
    | (refine g_extend ?_; refine de_extend ?_)
    | (refine g_join ?_; refine de_join ?_)
    | (refine g_split ?_; refine de_split ?_)
    | (refine g_pop ?_; refine de_popAt ?_)
    | (refine g_index ?_; refine de_index ?_))
  | refine de_lt ?_
  | refine de_le ?_
  | refine de_gt ?_
  | refine de_ge ?_
  | refine de_eqL ?_
  | refine de_neL ?_
  | refine de_is ?_
  | refine de_isnot ?_
  | refine de_lele ?_
  | refine de_lelt ?_
  | refine de_in (by assumption) ?_
  | refine de_notin (by assumption) ?_)
local macro_rules | `(tactic| walk_at "DT") => `(tactic| first
  | refine dt_lt ?_
  | refine dt_le ?_
  | refine dt_gt ?_
  | refine dt_ge ?_
  | refine dt_is ?_
  | refine dt_isnot ?_
  | refine dt_not ?_
  | refine dt_lele ?_
  | refine dt_lelt ?_
  | (refine g_cmpN ?_; first
    | refine dt_inKD (by assumption) (by assumption) (by walk_at "nm") (by with_reducible assumption) ?_
    | refine dt_notinKD (by assumption) (by assumption) (by walk_at "nm") (by with_reducible assumption) ?_)
  | (first | refine g_neLst ?_ | refine g_neTup ?_); refine dt_neD (by assumption) ?_
  | (first | refine g_eqLst ?_ | refine g_eqTup ?_); refine dt_eqD (by assumption) ?_
  | refine dt_eqL ?_
  | refine dt_neL ?_
  | refine dt_in (by assumption) ?_
  | refine dt_notin (by assumption) ?_
  | refine dt_pw (dw_and ?_)
  | refine dt_pw (dw_or ?_)
  | refine dt_val ?_)
local macro_rules | `(tactic| walk_at "DS") => `(tactic| first
  | (refine g_set ?_; refine ds_set (by assumption) (by walk_at "nm") (by walk_at "sto") (by walk_at "pin") ?_)
  | (refine g_setix ?_; refine ds_setix ?_)
  | (refine g_asg ?_; refine ds_asgW ?_)
  | refine ds_if ?_
  | refine ds_ret ?_
  | refine ds_retN ?_
  | (refine g_expr ?_; refine ds_expr ?_)
  | refine ds_break ?_
  | refine ds_continue ?_
  | refine ds_pass ?_)
local macro_rules | `(tactic| walk_at "go1") => `(tactic| first
  | (refine g_DE ?_; walk_at "DE")
  | (refine g_DS ?_; walk_at "DS")
  | refine db_cons ?_
  | refine db_nil ?_
  | (refine g_DT ?_; walk_at "DT")
  | (refine g_acons ?_; refine da_cons ?_)
  | refine da_nil ?_
  | refine dw_and1 ?_
  | refine dw_or1 ?_
  | (refine g_DW ?_; first | refine dw_and ?_ | refine dw_or ?_)
  | (refine g_DO ?_; first | refine do_none ?_ | refine do_some ?_)
  | (refine g_DG ?_; first
    | refine dg_name (by assumption) (by with_reducible assumption) (by walk_at "sto") (by walk_at "pin") ?_
    | refine dg_tup (by assumption) ?_)
  | (refine g_DGw ?_; first
    | refine dgw_name (by assumption) (by with_reducible assumption) (by walk_at "sto") (by walk_at "pin") ?_
    | refine dgw_tup (by assumption) ?_)
  | (refine g_DGsw ?_; first | refine dgsw_cons ?_ | refine dgsw_nil ?_)
  | (refine g_DGs ?_; first | refine dgs_name ?_ | refine dgs_cons ?_ | refine dgs_nil ?_)
  | (refine g_DTs ?_; first | refine dts_nil ?_ | refine dts_one ?_)
  | (refine g_InB ?_; intro X' b' B'; have J' := Blk.jn b' (by assumption); have r' := Blk.room b' (by assumption))
  | refine I2.mk ?_
  | refine L2s.mk (by rfl) (by rfl) ?_
  | refine AddS.int ?_
  | refine AddS.lst (by rfl) (by rfl) (by walk_at "imm1") (by walk_at "sz") ?_
  | refine AddS.tup (by rfl) (by rfl) (by walk_at "imm1") (by walk_at "sz") ?_
  | refine MulS.int (by first | exact Or.inr ⟨by decide, by decide⟩ | walk_at "mul") ?_
  | refine IxS.seq (by rfl) (by rfl) (by first | rfl | exact atI_zero) (by walk_at "imm1") ?_
  | refine LenS.seq (by rfl) (by rfl) ?_
  | refine LenS.str (by first | decide | assumption) ?_
  | refine SetS.lst (by rfl) (by rfl) ?_
  | refine IsiS.mk (by rfl) (by rfl) (by walk_at "kb") ?_
  | refine SlS.lst (by rfl) (by walk_at "imm1") ?_
  | refine SlS.str (by walk_at "sz") ?_
  | refine SlS.tup (by rfl) (by walk_at "imm1") ?_
  | refine IsN.yes ?_
  | refine IsN.no (by intro v h; cases h <;> (intro q; cases q)) (by intro v e q; cases q) ?_
  | refine SeqS.seq (by rfl) (by rfl) (by walk_at "imm1") ?_
  | refine SeqS.str ?_
  | refine eqs_nilT (n := 6) (by rfl) (by first | assumption | (walk_at "shp"; done)) (by decide) ?_
  | refine eqs_nil (n := 6) (by rfl) (by first | assumption | (walk_at "shp"; done)) (by decide) ?_
  | refine SeqC.mk (by rfl) (by rfl) (by walk_at "imm1") ?_
  | refine IntS.int ?_
  | refine IntS.bl ?_
  | refine StrS.str ?_
  | refine AppS.s (by rfl) (by walk_at "sz") ?_
  | (refine g_Ex ?_; first | refine ⟨_, _, _, _, _, _, rfl, Take.v, Take.v, ?_⟩ | refine ⟨_, _, _, rfl, Take.v, ?_⟩ | refine ⟨_, _, _, rfl, Take.s (by rfl), ?_⟩ | refine ⟨_, _, Take.v, ?_⟩ | refine ⟨_, _, Take.s (by rfl), ?_⟩ | refine ⟨_, rfl, rfl, by first | exact List.nodup_nil | exact List.nodup_singleton _ | simp [slots], ?_⟩ | refine ⟨_, _, rfl, (by first | rfl | assumption), ?_⟩ | refine ⟨_, _, (by walk_at "takes"), ?_⟩ | refine ⟨_, (by rfl), ?_⟩ | refine ⟨_, _, rfl, ?_⟩)
  | (refine g_And ?_; first
    | refine And.intro (RgOk.of_le (by omega) (by omega) (by omega) (by omega)) ?_
    | refine And.intro (show scal _ _ = true by rfl) ?_
    | refine And.intro (show IsLst _ _ from ⟨_, (by rfl)⟩) ?_ -- And.intro ⟨_, (by rfl)⟩
    | refine And.intro (show _ ≤ sizeLine by walk_at "sz") ?_
    | refine br_rev ?_
    | refine br_sw ?_
    | refine br_true ?_
    | refine br_false ?_
    | refine br_T (by first | rfl | assumption) ?_
    | refine br_F (by first | rfl | assumption) ?_
    | refine br_int (fun _ => ?_) (fun _ => ?_)
    | refine br_dec (fun _ => ?_) (fun _ => ?_)
    | refine br_nint (fun _ => ?_) (fun _ => ?_)
    | refine br_ndec (fun _ => ?_) (fun _ => ?_)
    | refine And.intro (Or.inr ⟨by decide, by decide⟩) ?_
    | refine And.intro ⟨by decide, by decide, by decide⟩ ?_
    | (refine And.intro ?andl ?_; (case andl => first | assumption | omega)))
  | fail)
local macro_rules | `(tactic| walk_at "go") => `(tactic| repeat' (walk_at "go1"))
local macro_rules | `(tactic| walk_at "blk") => `(tactic| exact ⟨rfl, by decide +kernel, by decide +kernel, by decide +kernel, by decide +kernel⟩)
local macro_rules | `(tactic| walk_at "pins") => `(tactic| exact unp_all (by assumption) (by rfl))
local macro_rules | `(tactic| walk_at "swap") => `(tactic| exact sw_of (by assumption) (by rfl) (by with_reducible assumption) (by rfl) (by rfl))
inductive NumD : D → Bool → Prop
  | int {i : Int} : NumD (.int i) true
  | bl {b : Bool} : NumD (.bl b) false
  | str {s : Str} : NumD (.str s) false
  | non : NumD .non false
  | tup {xs : List D} : NumD (.tup xs) false
  | lst {xs : List D} : NumD (.lst xs) false
def preIsNum : Pre := fun ds Φ => ∃ d b, ds = [d] ∧ NumD d b ∧ Imm d ∧ Φ (.bl b) [d]
inductive Op4 | load | add | take | store
def Op4.s : Op4 → Str
  | .load => "load"
  | .add => "add"
  | .take => "take"
  | .store => "store"
inductive Row
  | op (o : Op4) (v x : Int) | say (x : Int) | test (a b : Int) | stop
def Row.nm : Row → Str
  | .op o _ _ => o.s
  | .say _ => "say"
  | .test _ _ => "test"
  | .stop => "stop"
def Row.args : Row → List Int
  | .op _ v x => [v, x]
  | .say x => [x]
  | .test a b => [a, b]
  | .stop => []
def Row.sh : Row → Str
  | .op _ _ _ => "vr"
  | .say _ => "r"
  | .test _ _ => "rr"
  | .stop => ""
def Row.d (r : Row) : D := .tup (.str r.nm :: r.args.map .int)
def Row.Ok (nw nr : Int) : Row → Prop
  | .op _ v x => (0 ≤ v ∧ v < nw) ∧ 0 ≤ x ∧ x < nr
  | .say x => 0 ≤ x ∧ x < nr
  | .test a b => (0 ≤ a ∧ a < nr) ∧ 0 ≤ b ∧ b < nr
  | .stop => True
theorem Row.imm (r : Row) : Imm r.d := imm_tup (imm_cons imm_str (imm_map fun _ => imm_int))
def shapes : List (Str × Str) := [("load", "vr"), ("add", "vr"), ("take", "vr"), ("store", "vr"), ("say", "r"), ("test", "rr"), ("stop", "")]
theorem Row.look (r : Row) : shapes.lookup r.nm = some r.sh := by
  cases r with
  | op o v x => cases o <;> rfl
  | _ => rfl
theorem Row.shl (r : Row) : r.sh.length = r.args.length := by
  cases r <;> rfl
theorem Row.at {r : Row} {nw nr : Int} (h : r.Ok nw nr) {i c : Nat} {a : Int} (h1 : r.sh.cps.toList[i]? = some c) (h2 : r.args[i]? = some a) : (c = 118 ∧ 0 ≤ a ∧ a < nw) ∨ (c = 114 ∧ 0 ≤ a ∧ a < nr) := by
  cases r with
  | op o v x =>
    match i, h1, h2 with
    | 0, h1, h2 => cases h1; cases h2; exact .inl ⟨rfl, h.1⟩
    | 1, h1, h2 => cases h1; cases h2; exact .inr ⟨rfl, h.2⟩
  | say x =>
    match i, h1, h2 with
    | 0, h1, h2 => cases h1; cases h2; exact .inr ⟨rfl, h⟩
  | test x y =>
    match i, h1, h2 with
    | 0, h1, h2 => cases h1; cases h2; exact .inr ⟨rfl, h.1⟩
    | 1, h1, h2 => cases h1; cases h2; exact .inr ⟨rfl, h.2⟩
  | stop => cases h2
def preWhyOk : Pre := fun ds Φ => ∃ r nw nr, ds = [Row.d r, .int nw, .int nr] ∧ r.Ok nw nr ∧ Φ .non ds
structure Prog where
  ws : List Int
  rows : List Row
def Prog.d (p : Prog) : D := .tup [.tup (p.ws.map .int), .tup (p.rows.map Row.d)]
structure Prog.Ok (p : Prog) : Prop where
  wl : p.ws.length ≤ 8
  wv : ∀ x ∈ p.ws, -1000000 ≤ x ∧ x ≤ 1000000
  r0 : 1 ≤ p.rows.length
  rl : p.rows.length ≤ 40
  rv : ∀ r ∈ p.rows, r.Ok p.ws.length p.rows.length
theorem rows_imm {rs : List Row} : ∀ x ∈ rs.map Row.d, Imm x := imm_map fun r => r.imm
theorem Prog.imm (p : Prog) : Imm p.d := imm_tup (imm_cons (imm_tup (imm_map fun _ => imm_int)) (imm_cons (imm_tup rows_imm) imm_nil))
def preNeedOk : Pre := fun ds Φ => ∃ p : Prog, ds = [p.d] ∧ p.Ok ∧ Φ .non ds
def Small (i : Int) : Prop := -9999999 ≤ i ∧ i ≤ 9999999
def preNumOf : Pre := fun ds Φ => ∃ i : Int, ds = [.str (numW i)] ∧ Small i ∧ Φ (.int i) ds
def preNumsOf : Pre := fun ds Φ => ∃ (is : List Int) (l : Int), ds = [.lst (strsD (is.map numW)), .int l] ∧ is.length ≤ 40 ∧ (∀ i ∈ is, Small i) ∧ Φ (.tup (is.map .int)) ds
/-- the words of a row, the lines of a program -/
def Row.ws (r : Row) : List Str := r.nm :: r.args.map numW
def lineW (ws : List Str) : Str := Txt.join " " ws
def Prog.lines (p : Prog) : List Str := lineW ("worths" :: p.ws.map numW) :: p.rows.map fun r => lineW r.ws
def Prog.text (p : Prog) : Str := Txt.join "\n" p.lines
def wordD : D → D
  | .int i => .str (numW i)
  | d => d
theorem wordD_row (r : Row) : (D.str r.nm :: r.args.map D.int).map wordD = strsD r.ws := by
  simp [wordD, strsD, Row.ws]
theorem Row.small {r : Row} {nw nr : Int} (h : r.Ok nw nr) (h1 : nw ≤ 1000000) (h2 : nr ≤ 1000000) : ∀ q ∈ r.args, Small q := by
  unfold Small
  cases r with
  | op o v x => obtain ⟨⟨a, b⟩, c, d⟩ := h; intro q m; simp [Row.args] at m; omega
  | say x => obtain ⟨c, d⟩ := h; intro q m; simp [Row.args] at m; omega
  | test x y => obtain ⟨⟨a, b⟩, c, d⟩ := h; intro q m; simp [Row.args] at m; omega
  | stop => intro q m; simp [Row.args] at m
theorem Row.wl (r : Row) : r.ws.length ≤ 3 := by
  cases r <;> simp [Row.ws, Row.args]
theorem Row.wlen {r : Row} {nw nr : Int} (h : r.Ok nw nr) (h1 : nw ≤ 1000000) (h2 : nr ≤ 1000000) : ∀ y ∈ r.ws, y.length ≤ 640 := by
  intro y m
  rcases List.mem_cons.mp m with rfl | m
  · have ho : ∀ o : Op4, o.s.length ≤ 640 := fun o => by cases o <;> decide
    cases r with
    | op o v x => exact ho o
    | say x => exact (by decide : (Str.ofString "say").length ≤ 640)
    | test x y => exact (by decide : (Str.ofString "test").length ≤ 640)
    | stop => exact (by decide : (Str.ofString "stop").length ≤ 640)
  · obtain ⟨q, hq, rfl⟩ := List.mem_map.mp m
    have := Row.small h h1 h2 q hq
    unfold Small at this
    exact (numW_val (by omega)).2
theorem Row.linelen {r : Row} {nw nr : Int} (h : r.Ok nw nr) (h1 : nw ≤ 1000000) (h2 : nr ≤ 1000000) : (lineW r.ws).length ≤ 1923 :=
  Nat.le_trans join_len (Nat.le_trans (join_bd (Row.wlen h h1 h2) r.wl) (by decide))
def preWritten : Pre := fun ds Φ => ∃ p : Prog, ds = [p.d] ∧ p.Ok ∧ Φ (.str p.text) ds
def preRead : Pre := fun ds Φ => ∃ p : Prog, ds = [.str p.text] ∧ p.Ok ∧ Φ p.d ds
structure Dice where
  sc : List Int
  i : Int
  m : Int
  r : Int
def Dice.d (g : Dice) : D := .lst [.fz (g.sc.map .int), .int g.i, .int g.m, .int g.r]
structure Dice.Ok (g : Dice) : Prop where
  i : 0 ≤ g.i
  m : 0 ≤ g.m
  r : 0 ≤ g.r
  l : g.sc.length ≤ 63
def preDice : Pre := fun ds Φ => ∃ sc : List Int, ds = [.fz (sc.map .int)] ∧ sc.length ≤ 63 ∧ ∀ g : Dice, g.Ok → Φ g.d ds
def preNext : Pre := fun ds Φ => ∃ (g : Dice) (n : Int), ds = [g.d, .int n] ∧ 0 < n ∧ n < 1073741824 ∧ g.Ok ∧ ∀ (k : Int) (g' : Dice), 0 ≤ k → k < n → g'.Ok → Φ (.int k) [g'.d, .int n]
/-- plain data, of a depth -/
inductive Pl : Nat → D → Prop
  | int {n : Nat} {i : Int} : Pl n (.int i)
  | str {n : Nat} {i : Str} : Pl n (.str i)
  | bl {n : Nat} {i : Bool} : Pl n (.bl i)
  | non {n : Nat} : Pl n .non
  | tup {n : Nat} {xs : List D} : xs.length < 1000000 → (∀ x ∈ xs, Pl n x) → Pl (n + 1) (.tup xs)
theorem Pl.imm {n : Nat} {d : D} (h : Pl n d) : Imm d := by
  induction h with
  | int => exact imm_int
  | str => exact imm_str
  | bl => exact imm_bl
  | non => exact imm_non
  | tup _ _ ih => exact imm_tup ih
def preLike (n : Nat) : Pre := fun ds Φ => ∃ d, ds = [d, d] ∧ Pl n d ∧ Φ (.bl true) ds
/-- a row that goes on to one row -/
inductive Row.Line : Row → Prop
  | op {o : Op4} {v x : Int} : Row.Line (.op o v x)
  | say {x : Int} : Row.Line (.say x)
def Row.to (y : Int) : Row → Row
  | .op o v _ => .op o v y
  | .say _ => .say y
  | r => r
def preStraight : Pre := fun ds Φ => ∃ (g : Dice) (a : Int), ds = [g.d, .int a] ∧ g.Ok ∧ 0 ≤ a ∧ a < 100000 ∧ ∀ (r : Row) (g' : Dice), r.Ok 8 (a + 2) → r.Line → g'.Ok → Φ r.d [g'.d, .int a]
def rowsD (rs : List Row) : List D := rs.map Row.d
theorem rowsD_imm {rs : List Row} : ∀ x ∈ rowsD rs, Imm x := rows_imm
/-- rows that stand at a .. a + n, going at most to a + n -/
def RowsOk (a : Int) (rs : List Row) : Prop := ∀ r ∈ rs, r.Ok 8 (a + rs.length + 1)
theorem Row.Ok.mono {nw nr nw' nr' : Int} {r : Row} (h : r.Ok nw nr) (h1 : nw ≤ nw') (h2 : nr ≤ nr') : r.Ok nw' nr' := by
  cases r with
  | op o v x => exact ⟨⟨h.1.1, by have := h.1.2; omega⟩, h.2.1, by have := h.2.2; omega⟩
  | say x => exact ⟨h.1, by have := h.2; omega⟩
  | test x y => exact ⟨⟨h.1.1, by have := h.1.2; omega⟩, h.2.1, by have := h.2.2; omega⟩
  | stop => trivial
theorem Row.to_d {r : Row} {y : Int} (h : r.Line) : D.tup (cutA (D.str r.nm :: r.args.map D.int) none (some (-1)) ++ [D.int y]) = (r.to y).d := by
  cases h with
  | op => rfl
  | say => rfl
theorem Row.to_ok {r : Row} {y nw nr nr' : Int} (h : r.Line) (k : r.Ok nw nr) (h0 : 0 ≤ y) (h1 : y < nr') : (r.to y).Ok nw nr' := by
  cases h with
  | op => exact ⟨k.1, h0, h1⟩
  | say => exact ⟨h0, h1⟩
def preFork : Pre := fun ds Φ => ∃ (g : Dice) (a : Int), ds = [g.d, .int a] ∧ g.Ok ∧ 0 ≤ a ∧ a < 90000 ∧ ∀ (rs : List Row) (g' : Dice), rs.length ≤ 6 → RowsOk a rs → g'.Ok → Φ (.lst (rowsD rs)) [g'.d, .int a]
def bnd (deep : Int) : Int := if deep = 0 then 18 else if deep = 1 then 72 else 234
def preBody (n : Nat) : Pre := fun ds Φ => ∃ (g : Dice) (a deep : Int), ds = [g.d, .int a, .int deep] ∧ g.Ok ∧ 0 ≤ a ∧ a + bnd deep < 40000 ∧ 0 ≤ deep ∧ deep ≤ n ∧ ∀ (rs : List Row) (g' : Dice), (rs.length : Int) ≤ bnd deep → RowsOk a rs → g'.Ok → Φ (.lst (rowsD rs)) [g'.d, .int a, .int deep]
theorem RowsOk.app {a : Int} {rs qs : List Row} (h : RowsOk a rs) (k : ∀ r ∈ qs, r.Ok 8 (a + rs.length + qs.length + 1)) : RowsOk a (rs ++ qs) := fun r m => by
  have e : (((rs ++ qs).length : Nat) : Int) = rs.length + qs.length := by simp
  rw [e]
  rcases List.mem_append.mp m with m | m
  · exact (h r m).mono (Int.le_refl _) (by omega)
  · exact (k r m).mono (Int.le_refl _) (by omega)
theorem rowsD_app {rs qs : List Row} : rowsD rs ++ rowsD qs = rowsD (rs ++ qs) := by simp [rowsD]
def rngI (lo : Int) (n : Nat) : List Int := (List.range n).map fun i => lo + (i : Nat)
theorem rngD_I {lo : Int} {n : Nat} : rngD lo n = (rngI lo n).map D.int := by simp [rngD, rngI]
theorem rngI_mem {lo x : Int} {n : Nat} : x ∈ rngI lo n ↔ lo ≤ x ∧ x < lo + n := by
  unfold rngI
  rw [List.mem_map]
  constructor
  · rintro ⟨i, hi, rfl⟩
    have := List.mem_range.mp hi
    omega
  · rintro ⟨h1, h2⟩
    exact ⟨(x - lo).toNat, List.mem_range.mpr (by omega), by omega⟩
theorem rngI_len {lo : Int} {n : Nat} : (rngI lo n).length = n := by simp [rngI]
theorem pop_perm : ∀ (l : List Int) (k : Nat) (y : Int), l[k]? = some y → (y :: l.eraseIdx k).Perm l
  | [], k, y, h => by simp at h
  | a :: l, 0, y, h => by cases h; exact List.Perm.refl _
  | a :: l, k + 1, y, h => (List.Perm.swap _ _ _).trans (List.Perm.cons _ (pop_perm l k y (by simpa using h)))
theorem perm_pop {ns ls l : List Int} {k : Nat} {y : Int} (h : (ns ++ ls).Perm l) (hy : ls[k]? = some y) : (ns ++ [y] ++ ls.eraseIdx k).Perm l := by
  refine List.Perm.trans ?_ h
  rw [List.append_assoc]
  exact List.Perm.append_left _ (pop_perm ls k y hy)
theorem map_erase {α β : Type} (f : α → β) : ∀ (l : List α) (k : Nat), (l.map f).eraseIdx k = (l.eraseIdx k).map f
  | [], k => by simp
  | a :: l, 0 => rfl
  | a :: l, k + 1 => congrArg (f a :: ·) (map_erase f l k)
def preMixed : Pre := fun ds Φ => ∃ (g : Dice) (p : Prog), ds = [g.d, p.d] ∧ g.Ok ∧ p.Ok ∧ ∀ (q : Prog) (g' : Dice), q.Ok → g'.Ok → Φ q.d [g'.d, p.d]
def Row.ren (f g : Int → Int) : Row → Row
  | .op o v x => .op o (f v) (g x)
  | .say x => .say (g x)
  | .test a b => .test (g a) (g b)
  | .stop => .stop
def Row.isOp : Row → Bool
  | .op _ _ _ => true
  | _ => false
theorem Row.ren_nm {f g : Int → Int} {r : Row} : (r.ren f g).nm = r.nm := by cases r <;> rfl
theorem Row.ren_at {f g : Int → Int} {r : Row} {j : Nat} {a : Int} (h : r.args[j]? = some a) : (r.ren f g).args[j]? = some (if (j == 0 && r.isOp) = true then f a else g a) := by
  cases r with
  | op o v x =>
    match j, h with
    | 0, h => cases h; rfl
    | 1, h => cases h; rfl
  | say x =>
    match j, h with
    | 0, h => cases h; rfl
  | test x y =>
    match j, h with
    | 0, h => cases h; rfl
    | 1, h => cases h; rfl
  | stop => cases h
theorem Row.ren_ok {f g : Int → Int} {r : Row} {nw nr nw' nr' : Int} (h : r.Ok nw nr) (hf : ∀ v, 0 ≤ v → v < nw → 0 ≤ f v ∧ f v < nw') (hg : ∀ v, 0 ≤ v → v < nr → 0 ≤ g v ∧ g v < nr') : (r.ren f g).Ok nw' nr' := by
  cases r with
  | op o v x => exact ⟨hf _ h.1.1 h.1.2, hg _ h.2.1 h.2.2⟩
  | say x => exact hg _ h.1 h.2
  | test x y => exact ⟨hg _ h.1.1 h.1.2, hg _ h.2.1 h.2.2⟩
  | stop => trivial
theorem Row.ren_len {f g : Int → Int} {r : Row} : (r.ren f g).args.length = r.args.length := by cases r <;> rfl
theorem Row.arg_lt {r : Row} {nw nr : Int} (h : r.Ok nw nr) {j : Nat} {a : Int} (e : r.args[j]? = some a) : if (j == 0 && r.isOp) = true then 0 ≤ a ∧ a < nw else 0 ≤ a ∧ a < nr := by
  cases r with
  | op o v x =>
    match j, e with
    | 0, e => cases e; exact h.1
    | 1, e => cases e; exact h.2
  | say x =>
    match j, e with
    | 0, e => cases e; exact h
  | test x y =>
    match j, e with
    | 0, e => cases e; exact h.1
    | 1, e => cases e; exact h.2
  | stop => cases e
theorem isOp_in (r : Row) : inV (.str r.nm) [.str "load", .str "add", .str "take", .str "store"] = r.isOp := by
  cases r with
  | op o v x => cases o <;> rfl
  | _ => rfl
def oD : Option Row → D
  | none => .non
  | some r => r.d
theorem rep_oD (n : Nat) : (List.replicate n [D.non]).flatten = (List.replicate n (none : Option Row)).map oD := by
  induction n with
  | zero => rfl
  | succ n ih => rw [List.replicate_succ, List.flatten_cons, ih, List.replicate_succ, List.map_cons]; rfl
theorem oD_imm {fs : List (Option Row)} : ∀ x ∈ fs.map oD, Imm x := imm_map fun o => by
  cases o with
  | none => exact imm_non
  | some r => exact r.imm
theorem set_oD : ∀ (fs : List (Option Row)) (j : Nat) (r : Row), (fs.map oD).set j r.d = (fs.set j (some r)).map oD
  | [], j, r => rfl
  | f :: fs, 0, r => rfl
  | f :: fs, j + 1, r => congrArg (oD f :: ·) (set_oD fs j r)
theorem all_some : ∀ (fs : List (Option Row)), (∀ j, j < fs.length → ∃ r, fs[j]? = some (some r)) → ∃ rs : List Row, fs = rs.map some
  | [], _ => ⟨[], rfl⟩
  | f :: fs, h => by
    obtain ⟨r, hr⟩ := h 0 (by simp)
    obtain ⟨rs, e⟩ := all_some fs fun j hj => by
      obtain ⟨q, hq⟩ := h (j + 1) (by simp; omega)
      exact ⟨q, by simpa using hq⟩
    cases hr
    exact ⟨r :: rs, by rw [e]; rfl⟩
def preStopping : Pre := fun ds Φ => ∃ (g : Dice) (deep : Int), ds = [g.d, .int deep] ∧ g.Ok ∧ 0 ≤ deep ∧ deep ≤ 2 ∧ ∀ (q : Prog) (g' : Dice), q.Ok → g'.Ok → Φ q.d [g'.d, .int deep]
def preAny : Pre := fun ds Φ => ∃ (g : Dice), ds = [g.d] ∧ g.Ok ∧ ∀ (q : Prog) (g' : Dice), q.Ok → g'.Ok → Φ q.d [g'.d]
theorem Row.shp {n : Nat} (r : Row) : Shp (n + 1) r.d := by
  have h : PyData.canLay0 (.str r.nm) = true := by
    have ho : ∀ o : Op4, PyData.canLay0 (.str o.s) = true := fun o => by cases o <;> decide +kernel
    cases r with
    | op o v x => exact ho o
    | say x => exact (by decide +kernel : PyData.canLay0 (.str "say") = true)
    | test x y => exact (by decide +kernel : PyData.canLay0 (.str "test") = true)
    | stop => exact (by decide +kernel : PyData.canLay0 (.str "stop") = true)
  exact shp_tup (shp_all_cons (shp_str h) (shp_all_map fun _ => shp_int))
theorem rowsD_shp {rs : List Row} : Shp 6 (.lst (rowsD rs)) := shp_lst (shp_all_map fun r => r.shp)
theorem stopQ {ws : List Int} {rs : List Row} (h1 : ws.length = 8) (h2 : ∀ x ∈ ws, -1000000 ≤ x ∧ x ≤ 1000000) (h3 : rs.length ≤ 39) (h4 : RowsOk 0 rs) : Prog.Ok ⟨ws, rs ++ [.stop]⟩ := by
  refine ⟨by show ws.length ≤ 8; omega, h2, by simp, by simp; omega, fun r m => ?_⟩
  show r.Ok (ws.length : Nat) ((rs ++ [Row.stop]).length : Nat)
  rw [h1]
  rcases List.mem_append.mp m with m | m
  · exact (h4 r m).mono (by omega) (by simp)
  · rw [List.mem_singleton.mp m]; trivial
theorem stopQ_d {ws : List Int} {rs : List Row} : D.tup [.tup (ws.map .int), .tup (rowsD rs ++ [.tup [.str "stop"]])] = Prog.d ⟨ws, rs ++ [.stop]⟩ := by
  simp [Prog.d, rowsD, Row.d, Row.nm, Row.args]
theorem numW_free {i : Int} {s : Nat} (h : s < 48 ∨ 57 < s) (h2 : s ≠ 45) : s ∉ TL.tl (numW i) := by
  cases i with
  | ofNat n =>
    rw [show numW (Int.ofNat n) = SX.S (TL.numL n) from numW_nat n]
    exact TL.numL_free h
  | negSucc m =>
    rw [numW_neg]
    intro q
    rcases List.mem_cons.mp (show s ∈ 45 :: TL.numL (m + 1) from q) with q | q
    · exact h2 q
    · exact TL.numL_free h q
theorem joinL_mem {c : Nat} {S : List Nat} : ∀ {ps : List (List Nat)}, c ∈ TL.joinL S ps → c ∈ S ∨ ∃ p ∈ ps, c ∈ p
  | [], h => nomatch h
  | [p], h => .inr ⟨p, List.mem_cons_self, h⟩
  | p :: q :: r, h => by
    rcases List.mem_append.mp (show c ∈ p ++ (S ++ TL.joinL S (q :: r)) from h) with h | h
    · exact .inr ⟨p, List.mem_cons_self, h⟩
    · rcases List.mem_append.mp h with h | h
      · exact .inl h
      · rcases joinL_mem h with h | ⟨z, m, hz⟩
        · exact .inl h
        · exact .inr ⟨z, List.mem_cons_of_mem _ m, hz⟩
theorem nm_free {r : Row} {s : Nat} (h : s = 10 ∨ s = 32) : s ∉ TL.tl r.nm := by
  have ho : ∀ o : Op4, 10 ∉ TL.tl o.s ∧ 32 ∉ TL.tl o.s := fun o => by cases o <;> decide +kernel
  have h2 : 10 ∉ TL.tl r.nm ∧ 32 ∉ TL.tl r.nm := by
    cases r with
    | op o v x => exact ho o
    | say x => exact (by decide +kernel : 10 ∉ TL.tl (Str.ofString "say") ∧ 32 ∉ TL.tl (Str.ofString "say"))
    | test x y => exact (by decide +kernel : 10 ∉ TL.tl (Str.ofString "test") ∧ 32 ∉ TL.tl (Str.ofString "test"))
    | stop => exact (by decide +kernel : 10 ∉ TL.tl (Str.ofString "stop") ∧ 32 ∉ TL.tl (Str.ofString "stop"))
  rcases h with rfl | rfl
  · exact h2.1
  · exact h2.2
theorem words_free {r : Row} {s : Nat} (h : s = 10 ∨ s = 32) : ∀ y ∈ r.ws, s ∉ TL.tl y := fun y m => by
  rcases List.mem_cons.mp m with rfl | m
  · exact nm_free h
  · obtain ⟨q, _, rfl⟩ := List.mem_map.mp m
    exact numW_free (by omega) (by omega)
theorem head_free {ws : List Int} {s : Nat} (h : s = 10 ∨ s = 32) : ∀ y ∈ ("worths" : Str) :: ws.map numW, s ∉ TL.tl y := fun y m => by
  rcases List.mem_cons.mp m with rfl | m
  · have h2 : 10 ∉ TL.tl (Str.ofString "worths") ∧ 32 ∉ TL.tl (Str.ofString "worths") := by decide +kernel
    rcases h with rfl | rfl
    · exact h2.1
    · exact h2.2
  · obtain ⟨q, _, rfl⟩ := List.mem_map.mp m
    exact numW_free (by omega) (by omega)
theorem line_free {ys : List Str} (h : ∀ y ∈ ys, 10 ∉ TL.tl y) : 10 ∉ TL.tl (lineW ys) := by
  unfold lineW
  rw [TL.join_eq, TL.tl_join]
  intro q
  rcases joinL_mem q with q | ⟨p, m, q⟩
  · exact (by decide +kernel : 10 ∉ TL.tl (Str.ofString " ")) q
  · obtain ⟨y, my, rfl⟩ := List.mem_map.mp m
    exact h y my q
theorem split_line {ys : List Str} (hne : ys ≠ []) (h : ∀ y ∈ ys, 32 ∉ TL.tl y) : Txt.split (lineW ys) " " = ys :=
  TL.split_join (s := 32) (S := []) (by decide +kernel) (by decide +kernel) hne h
theorem split_text (p : Prog) : Txt.split p.text "\n" = p.lines := by
  refine TL.split_join (s := 10) (S := []) (by decide +kernel) (by decide +kernel) (by simp [Prog.lines]) fun y m => ?_
  rcases List.mem_cons.mp m with rfl | m
  · exact line_free (head_free (.inl rfl))
  · obtain ⟨r, _, rfl⟩ := List.mem_map.mp m
    exact line_free (words_free (.inl rfl))
theorem Prog.headlen {p : Prog} (ok : p.Ok) : (lineW ("worths" :: p.ws.map numW)).length ≤ 5769 := by
  have hw := ok.wl
  refine Nat.le_trans join_len (Nat.le_trans (join_bd (m := 640) (n := 9) (fun y hy => ?_) (by simp; omega)) (by decide))
  rcases List.mem_cons.mp hy with rfl | hy
  · decide
  · obtain ⟨q, hq, rfl⟩ := List.mem_map.mp hy
    have hv := ok.wv q hq
    exact (numW_val (by omega)).2
theorem Prog.textlen {p : Prog} (ok : p.Ok) : p.text.length ≤ 236570 := by
  have hw := ok.wl
  have hr := ok.rl
  refine Nat.le_trans join_len (Nat.le_trans (join_bd (m := 5769) (n := 41) (fun y hy => ?_) (by simp [Prog.lines]; omega)) (by decide))
  rcases List.mem_cons.mp hy with rfl | hy
  · exact p.headlen ok
  · obtain ⟨r, hr2, rfl⟩ := List.mem_map.mp hy
    exact Nat.le_trans (Row.linelen (ok.rv r hr2) (by omega) (by omega)) (by decide)
local macro_rules | `(tactic| walk_at "h:is_number") => `(tactic| (have : Sl n_is_number 0 "thing" := rfl; have : Nm (defScope s_is_number) "thing" .local := rfl; have : Nm (defScope s_is_number) "isinstance" .globalImplicit := rfl; have : Nm (defScope s_is_number) "int" .globalImplicit := rfl; have : Nm (defScope s_is_number) "bool" .globalImplicit := rfl; (show DB _ _ [some _] (defBody s_is_number) _)))
section
variable {P : Program} {w : World} {K : PySem.W.Frag} {mg : Str → Option Value} {base : Heap}
theorem ok_is_number {f : Addr} {fd : FuncData} (F : L2.Fun K "is_number" "is_number" s_is_number f fd) (hi : mg "isinstance" = none) (h1 : mg "int" = none) (h2 : mg "bool" = none) : FnOk P w K mg base CX0 1 f fd p_is_number (spD K 1 preIsNum) := by
  refine okD (N := n_is_number) [false] F sc_is_number rfl (by decide) ?_ ?_
  · rintro ds Φ _ ⟨d, t, rfl, _, hi, _⟩
    exact imm_at0 (imm_cons hi imm_nil)
  · rintro X f ds Φ B hF J hr hp _ ⟨d, t, rfl, ht, him, k⟩
    walk_at "h:is_number"
    cases ht <;> (walk_at "go"; exact k)
end
local macro_rules | `(tactic| walk_at "h:why_row") => `(tactic| (have : Sl n_why_row 0 "row" := rfl; have : Sl n_why_row 1 "worths" := rfl; have : Sl n_why_row 2 "rows" := rfl; have : Sl n_why_row 3 "shape" := rfl; have : Sl n_why_row 4 "kind" := rfl; have : Sl n_why_row 5 "part" := rfl; have : Nm (defScope s_why_row) "row" .local := rfl; have : Nm (defScope s_why_row) "worths" .local := rfl; have : Nm (defScope s_why_row) "rows" .local := rfl; have : Nm (defScope s_why_row) "shape" .local := rfl; have : Nm (defScope s_why_row) "kind" .local := rfl; have : Nm (defScope s_why_row) "part" .local := rfl; have : Nm (defScope s_why_row) "isinstance" .globalImplicit := rfl; have : Nm (defScope s_why_row) "tuple" .globalImplicit := rfl; have : Nm (defScope s_why_row) "len" .globalImplicit := rfl; have : Nm (defScope s_why_row) "str" .globalImplicit := rfl; have : Nm (defScope s_why_row) "SHAPES" .globalImplicit := rfl; have : Nm (defScope s_why_row) "zip" .globalImplicit := rfl; (show DB _ _ [some _, some _, some _, none, none, none] (defBody s_why_row) _)))
section
variable {P : Program} {w : World} {K : PySem.W.Frag} {mg : Str → Option Value} {base : Heap}
theorem ok_why_row {f : Addr} {fd : FuncData} (F : L2.Fun K "why_row" "why_row" s_why_row f fd) (hi : mg "isinstance" = none) (h1 : mg "tuple" = none) (h2 : mg "str" = none) (h3 : mg "len" = none) (h4 : mg "zip" = none) (S : KD K w mg "SHAPES" shapes) (G : GFn P w K mg base 1 "is_number" 1 preIsNum) : FnOk P w K mg base CX0 2 f fd p_why_row (spD K 3 preWhyOk) := by
  refine okD (N := n_why_row) [false, false, false] F sc_why_row rfl (by decide) ?_ ?_
  · rintro ds Φ _ ⟨r, nw, nr, rfl, _⟩
    exact imm_at0 (imm_cons r.imm (imm_cons imm_int (imm_cons imm_int imm_nil)))
  · rintro X f ds Φ B hF J hr hp _ ⟨r, nw, nr, rfl, ok, k⟩
    walk_at "h:why_row"
    have ia : ∀ x ∈ r.args.map D.int, Imm x := imm_map fun _ => imm_int
    have lk : (shapes.lookup r.nm).isSome = true := by rw [r.look]; rfl
    have lk2 := r.look
    have e0 : decide (V.int ((D.str r.nm :: r.args.map D.int).length : Nat) = V.int 0) = false := by simp; omega
    have e1 : decide (V.int ((D.str r.nm :: r.args.map D.int).length : Nat) = V.int ((r.sh.length : Nat) + 1)) = true := by simp [r.shl]
    have e2 : r.sh.length ≤ sizeLine := by rw [r.shl, sizeLine_eq]; cases r <;> simp [Row.args]
    unfold Row.d
    walk_at "go"
    · refine de_lc (own := [("part", 5)]) (by assumption) (by walk_at "blk") (by walk_at "pins") (di_seq ?_)
      walk_at "go"
      rw [cutA_tail]
      refine lc_none rfl (by rw [List.length_map, sizeLine_eq]; cases r <;> simp [Row.args]) (fun i d hd => ?_) ?_
      · rw [List.getElem?_map] at hd
        cases hq : r.args[i]? with
        | none => rw [hq] at hd; cases hd
        | some q =>
          rw [hq] at hd
          cases hd
          unfold Turn1
          walk_at "go"
          refine ⟨_, _, rfl, .int, imm_int, ?_⟩
          walk_at "go"
          exact ⟨rfl, rfl⟩
      · walk_at "go"
        refine ds_for (by assumption) (di_zip (by assumption) (by assumption) (by walk_at "nm") (by assumption) ?_)
        walk_at "go"
        rw [cutA_tail]
        refine ⟨rfl, fun i δ => ∃ kd pd, δ = [some (.tup (.str r.nm :: r.args.map .int)), some (.int nw), some (.int nr), some (.str r.sh), kd, pd], ⟨_, _, rfl⟩, ?_, ?_⟩
        · rintro i d δ2 hd ⟨kd, pd, rfl⟩
          obtain ⟨a, b, ha, hb, rfl⟩ := ziD_get hd
          obtain ⟨c, hc, rfl⟩ := signs_get ha
          obtain ⟨q, hq, rfl⟩ := map_get hb
          refine ⟨[4, 5], ?_⟩
          rcases Row.at ok hc hq with ⟨rfl, h3, h4⟩ | ⟨rfl, h3, h4⟩
          · have e3 : decide (0 ≤ q) = true := by simpa using h3
            have e4 : decide (q < nw) = true := by simpa using h4
            walk_at "go"
            exact ⟨_, _, rfl⟩
          · have e3 : decide (0 ≤ q) = true := by simpa using h3
            have e4 : decide (q < nr) = true := by simpa using h4
            walk_at "go"
            exact ⟨_, _, rfl⟩
        · rintro δ2 ⟨kd, pd, rfl⟩
          walk_at "go"
          exact k
end
local macro_rules | `(tactic| walk_at "h:need_program") => `(tactic| (have : Sl n_need_program 0 "program" := rfl; have : Sl n_need_program 1 "worths" := rfl; have : Sl n_need_program 2 "rows" := rfl; have : Sl n_need_program 3 "number" := rfl; have : Sl n_need_program 4 "row" := rfl; have : Sl n_need_program 5 "why" := rfl; have : Sl n_need_program 6 "worth" := rfl; have : Nm (defScope s_need_program) "program" .local := rfl; have : Nm (defScope s_need_program) "worths" .local := rfl; have : Nm (defScope s_need_program) "rows" .local := rfl; have : Nm (defScope s_need_program) "number" .local := rfl; have : Nm (defScope s_need_program) "row" .local := rfl; have : Nm (defScope s_need_program) "why" .local := rfl; have : Nm (defScope s_need_program) "len" .globalImplicit := rfl; have : Nm (defScope s_need_program) "MOST_WORTHS" .globalImplicit := rfl; have : Nm (defScope s_need_program) "BadProgram" .globalImplicit := rfl; have : Nm (defScope s_need_program) "MOST_ROWS" .globalImplicit := rfl; have : Nm (defScope s_need_program) "enumerate" .globalImplicit := rfl; have : Nm (defScope s_need_program) "why_row" .globalImplicit := rfl; (show DB _ _ [some _, none, none, none, none, none, none] (defBody s_need_program) _)))
section
variable {P : Program} {w : World} {K : PySem.W.Frag} {mg : Str → Option Value} {base : Heap}
theorem ok_need_program {f : Addr} {fd : FuncData} (F : L2.Fun K "need_program" "need_program" s_need_program f fd) (h3 : mg "len" = none) (h4 : mg "enumerate" = none) (c1 : GlobD K mg "MOST_WORTHS" (.int 8)) (c2 : GlobD K mg "MOST_ROWS" (.int 40)) (c3 : GlobD K mg "MOST_NUMBER" (.int 1000000)) (G : GFn P w K mg base 2 "why_row" 3 preWhyOk) : FnOk P w K mg base CX0 3 f fd p_need_program (spD K 1 preNeedOk) := by
  refine okD (N := n_need_program) [false] F sc_need_program rfl (by decide) ?_ ?_
  · rintro ds Φ _ ⟨p, rfl, _⟩
    exact imm_at0 (imm_cons p.imm imm_nil)
  · rintro X f ds Φ B hF J hr hp _ ⟨p, rfl, ok, k⟩
    walk_at "h:need_program"
    have ia : ∀ x ∈ p.ws.map D.int, Imm x := imm_map fun _ => imm_int
    have ib : ∀ x ∈ p.rows.map Row.d, Imm x := rows_imm
    have e0 : decide ((8 : Int) < ((p.ws.map D.int).length : Nat)) = false := by have := ok.wl; simp; omega
    have e1 : decide ((1 : Int) ≤ ((p.rows.map Row.d).length : Nat)) = true := by have := ok.r0; simp; omega
    have e2 : decide (((p.rows.map Row.d).length : Int) ≤ 40) = true := by have := ok.rl; simp; omega
    unfold Prog.d
    walk_at "go"
    · refine de_lc (own := [("worth", 6)]) (by assumption) (by walk_at "blk") (by walk_at "pins") (di_seq ?_)
      walk_at "go"
      refine lc_none rfl (by have := ok.wl; rw [List.length_map, sizeLine_eq]; omega) (fun i d hd => ?_) ?_
      · obtain ⟨q, hq, rfl⟩ := map_get hd
        have hv := ok.wv q (List.mem_of_getElem? hq)
        have e3 : decide ((0 : Int) - 1000000 ≤ q) = true := by simp; omega
        have e4 : decide (q ≤ 1000000) = true := by simp; omega
        unfold Turn1
        walk_at "go"
        exact ⟨rfl, rfl⟩
      · walk_at "go"
        refine ds_for (by assumption) (di_enum (by assumption) (by assumption) (by walk_at "nm") (by assumption) ?_)
        walk_at "go"
        refine ⟨rfl, fun i δ => ∃ a b c, δ = [some p.d, some (.tup (p.ws.map .int)), some (.tup (p.rows.map Row.d)), a, b, c, none], ⟨_, _, _, rfl⟩, ?_, ?_⟩
        · rintro i d δ2 hd ⟨a, b, c, rfl⟩
          obtain ⟨d, hr', rfl⟩ := enD_get hd
          obtain ⟨r, hr2, rfl⟩ := map_get hr'
          have hv := ok.rv r (List.mem_of_getElem? hr2)
          have ic := r.imm
          refine ⟨[3, 4], ?_⟩
          walk_at "go"
          refine ⟨r, _, _, rfl, by simpa using hv, ?_⟩
          walk_at "go"
          exact ⟨_, _, _, rfl⟩
        · rintro δ2 ⟨a, b, c, rfl⟩
          walk_at "go"
          exact k
end
local macro_rules | `(tactic| walk_at "h:written") => `(tactic| (have : Sl n_written 0 "program" := rfl; have : Sl n_written 1 "lines" := rfl; have : Sl n_written 2 "row" := rfl; have : Sl n_written 3 "worth" := rfl; have : Sl n_written 4 "part" := rfl; have : Nm (defScope s_written) "program" .local := rfl; have : Nm (defScope s_written) "lines" .local := rfl; have : Nm (defScope s_written) "need_program" .globalImplicit := rfl; have : Nm (defScope s_written) "HEAD" .globalImplicit := rfl; (show DB _ _ [some _, none, none, none, none] (defBody s_written) _)))
section
variable {P : Program} {w : World} {K : PySem.W.Frag} {mg : Str → Option Value} {base : Heap}
theorem ok_written {f : Addr} {fd : FuncData} (F : L2.Fun K "written" "written" s_written f fd) (h1 : mg "str" = none) (c1 : GlobD K mg "HEAD" (.str "worths")) (G : GFn P w K mg base 3 "need_program" 1 preNeedOk) : FnOk P w K mg base CX0 4 f fd p_written (spD K 1 preWritten) := by
  refine okD (N := n_written) [false] F sc_written rfl (by decide) ?_ ?_
  · rintro ds Φ _ ⟨p, rfl, _⟩
    exact imm_at0 (imm_cons p.imm imm_nil)
  · rintro X f ds Φ B hF J hr hp _ ⟨p, rfl, ok, k⟩
    walk_at "h:written"
    have him := p.imm
    have ia : ∀ x ∈ p.ws.map D.int, Imm x := imm_map fun _ => imm_int
    have ib : ∀ x ∈ p.rows.map Row.d, Imm x := rows_imm
    walk_at "go"
    have hw := ok.wl
    have hr' := ok.rl
    have ew : (p.ws.map D.int).map (fun d => match d with | .int i => D.str (numW i) | d => d) = strsD (p.ws.map numW) := by simp [strsD]
    refine de_lc (own := [("worth", 3)]) (by assumption) (by walk_at "blk") (by walk_at "pins") (di_seq ?_)
    unfold Prog.d
    walk_at "go"
    refine lc_map (fun d => match d with | .int i => D.str (numW i) | d => d) rfl (by rw [List.length_map, sizeLine_eq]; omega) (fun i d hd => ?_) ?_
    · obtain ⟨q, hq, rfl⟩ := map_get hd
      have hv := ok.wv q (List.mem_of_getElem? hq)
      unfold Turn1
      walk_at "go"
      refine StrS.int (lg_small (by omega) (by omega)) ?_
      walk_at "go"
      exact ⟨rfl, rfl⟩
    · rw [ew]
      have sz1 : [D.str "worths"].length + (strsD (p.ws.map numW)).length ≤ sizeLine := by rw [sizeLine_eq]; simp [strsD]; omega
      walk_at "go"
      refine JoinS.mk (ys := "worths" :: p.ws.map numW) rfl rfl rfl ?_ ?_
      · have hb := join_bd (s := " ") (ys := ("worths" : Str) :: p.ws.map numW) (m := 640) (n := 9) (fun y hy => ?_) (by simp; omega)
        · exact Nat.le_trans hb (by decide)
        · rcases List.mem_cons.mp hy with rfl | hy
          · decide
          · obtain ⟨q, hq, rfl⟩ := List.mem_map.mp hy
            have hv := ok.wv q hq
            exact (numW_val (by omega)).2
      walk_at "go"
      refine de_lc (own := [("row", 2)]) (by assumption) (by walk_at "blk") (by walk_at "pins") (di_seq ?_)
      walk_at "go"
      refine lc_mapA p.rows Row.d (fun r => D.str (lineW r.ws)) rfl rfl (by rw [sizeLine_eq]; omega) (fun i r hr2 => ?_) ?_
      · have ic : ∀ x ∈ r.args.map D.int, Imm x := imm_map fun _ => imm_int
        unfold Turn1 Row.d
        walk_at "go"
        refine de_lc (own := [("part", 4)]) (by assumption) (by walk_at "blk") (by walk_at "pins") (di_seq ?_)
        walk_at "go"
        have ok2 := ok.rv r (List.mem_of_getElem? hr2)
        have hal : r.args.length ≤ 2 := by have := r.wl; simp [Row.ws] at this; omega
        refine lc_map wordD rfl (by simp; rw [sizeLine_eq]; omega) (fun i d hd => ?_) ?_
        · have hd2 : (∃ s, d = .str s) ∨ ∃ q, d = .int q ∧ Small q := by
            cases i with
            | zero => exact .inl ⟨_, (Option.some.inj hd).symm⟩
            | succ i =>
              obtain ⟨q, hq, rfl⟩ := map_get (show (r.args.map D.int)[i]? = some d from hd)
              exact .inr ⟨q, rfl, Row.small ok2 (by omega) (by omega) q (List.mem_of_getElem? hq)⟩
          rcases hd2 with ⟨s, rfl⟩ | ⟨q, rfl, hs⟩
          · unfold Turn1
            walk_at "go"
            exact ⟨rfl, rfl⟩
          · unfold Turn1
            unfold Small at hs
            walk_at "go"
            refine StrS.int (lg_small (by omega) (by omega)) ?_
            walk_at "go"
            exact ⟨rfl, rfl⟩
        · rw [wordD_row]
          walk_at "go"
          refine JoinS.mk (ys := r.ws) rfl rfl rfl (Nat.le_trans (join_bd (Row.wlen ok2 (by omega) (by omega)) r.wl) (by decide)) ?_
          walk_at "go"
          exact ⟨rfl, rfl⟩
      · walk_at "go"
        have il : ∀ x ∈ p.rows.map fun r => D.str (lineW r.ws), Imm x := imm_map fun _ => imm_str
        refine ExtS.s rfl rfl il (by simp; rw [sizeLine_eq]; omega) ?_
        walk_at "go"
        refine JoinS.mk (ys := p.lines) rfl rfl (by simp [strsD, Prog.lines, lineW]) ?_ ?_
        · refine Nat.le_trans (join_bd (m := 5769) (n := 41) (fun y hy => ?_) (by simp [Prog.lines]; omega)) (by decide)
          rcases List.mem_cons.mp hy with rfl | hy
          · refine Nat.le_trans join_len (Nat.le_trans (join_bd (m := 640) (n := 9) (fun y hy => ?_) (by simp; omega)) (by decide))
            rcases List.mem_cons.mp hy with rfl | hy
            · decide
            · obtain ⟨q, hq, rfl⟩ := List.mem_map.mp hy
              have hv := ok.wv q hq
              exact (numW_val (by omega)).2
          · obtain ⟨r, hr2, rfl⟩ := List.mem_map.mp hy
            exact Nat.le_trans (Row.linelen (ok.rv r hr2) (by omega) (by omega)) (by decide)
        · walk_at "go"
          exact k
end
local macro_rules | `(tactic| walk_at "h:number_of") => `(tactic| (have : Sl n_number_of 0 "word" := rfl; have : Sl n_number_of 1 "size" := rfl; have : Sl n_number_of 2 "sign" := rfl; have : Nm (defScope s_number_of) "word" .local := rfl; have : Nm (defScope s_number_of) "size" .local := rfl; have : Nm (defScope s_number_of) "len" .globalImplicit := rfl; have : Nm (defScope s_number_of) "MOST_FIGURES" .globalImplicit := rfl; have : Nm (defScope s_number_of) "int" .globalImplicit := rfl; (show DB _ _ [some _, none, none] (defBody s_number_of) _)))
section
variable {P : Program} {w : World} {K : PySem.W.Frag} {mg : Str → Option Value} {base : Heap}
theorem ok_number_of {f : Addr} {fd : FuncData} (F : L2.Fun K "number_of" "number_of" s_number_of f fd) (h3 : mg "len" = none) (h4 : mg "int" = none) (c1 : GlobD K mg "MOST_FIGURES" (.int 7)) (c2 : GlobD K mg "FIGURES" (.str "0123456789")) : FnOk P w K mg base CX0 1 f fd p_number_of (spD K 1 preNumOf) := by
  refine okD (N := n_number_of) [false] F sc_number_of rfl (by decide) ?_ ?_
  · rintro ds Φ _ ⟨i, rfl, _⟩
    exact imm_at0 (imm_cons imm_str imm_nil)
  · rintro X f ds Φ B hF J hr hp _ ⟨i, rfl, ok, k⟩
    walk_at "h:number_of"
    have hv := numW_val (i := i) (by unfold Small at ok; omega)
    have both : ∃ (c : Nat) (l : List Nat) (n : Nat), TL.numL n = c :: l ∧ 48 ≤ c ∧ c ≤ 57 ∧ n < 10 ^ 7 ∧ ((numW i = SX.S (c :: l) ∧ i = (n : Int)) ∨ (numW i = SX.S (45 :: c :: l) ∧ n ≠ 0)) := by
      cases i with
      | ofNat n =>
        cases e : TL.numL n with
        | nil => exact absurd e (TL.numL_ne _)
        | cons c l =>
          have hd := TL.numL_digits n c (by rw [e]; exact List.mem_cons_self ..)
          exact ⟨c, l, n, e, hd.1, hd.2, by unfold Small at ok; simp at ok; omega, .inl ⟨by rw [← e]; exact numW_nat n, rfl⟩⟩
      | negSucc m =>
        cases e : TL.numL (m + 1) with
        | nil => exact absurd e (TL.numL_ne _)
        | cons c l =>
          have hd := TL.numL_digits (m + 1) c (by rw [e]; exact List.mem_cons_self ..)
          exact ⟨c, l, m + 1, e, hd.1, hd.2, by unfold Small at ok; omega, .inr ⟨by rw [← e]; exact numW_neg m, by omega⟩⟩
    obtain ⟨c, l, n, e, hc0, hc1, hn, hh⟩ := both
    have hlen := TL.numL_len (n := n) (k := 7) (by decide) hn
    have hdig := TL.numL_digits n
    have hzero : c = 48 → n = 0 := fun q => by subst q; exact numL_head e
    rw [e] at hlen hdig
    have hsz2 : (SX.S (45 :: c :: l)).length ≤ sizeLine := by rw [SX.S_len, sizeLine_eq]; simp at hlen ⊢; omega
    have hsz : (SX.S (c :: l)).length ≤ sizeLine := by rw [SX.S_len, sizeLine_eq]; omega
    have e1 : decide ((1 : Int) ≤ ((SX.S (c :: l)).length : Nat)) = true := by rw [SX.S_len]; simp; omega
    have e2 : decide (((SX.S (c :: l)).length : Int) ≤ 7) = true := by rw [SX.S_len]; simp at hlen ⊢; omega
    have fig : ∀ i d, (signs (SX.S (c :: l)))[i]? = some d → ∃ q, d = D.str ⟨#[q]⟩ ∧ decide (q ∈ (("0123456789" : Str)).cps.toList) = true := fun i d hd => by
      obtain ⟨q, hq, rfl⟩ := signs_get hd
      have := hdig q (List.mem_of_getElem? hq)
      refine ⟨q, rfl, ?_⟩
      obtain ⟨h1, h2⟩ := this
      have : q = 48 ∨ q = 49 ∨ q = 50 ∨ q = 51 ∨ q = 52 ∨ q = 53 ∨ q = 54 ∨ q = 55 ∨ q = 56 ∨ q = 57 := by omega
      rcases this with rfl | rfl | rfl | rfl | rfl | rfl | rfl | rfl | rfl | rfl <;> rfl
    have hat : atI (SX.S (c :: l)).cps.toList 0 = some c := atI_zero
    rcases hh with ⟨hw, hi⟩ | ⟨hw, hi⟩
    · rw [hw] at hv k ⊢
      have hcut := cutS_one (c := c) (l := l)
      have e3 : decide (V.str (cutS (SX.S (c :: l)) none (some 1)) = V.str "-") = false := by
        rw [hcut]; simp; intro q; have := SX.S_inj (b := [45]) q; simp at this; omega
      walk_at "go"
      refine de_lc (own := [("sign", 2)]) (by assumption) (by walk_at "blk") (by walk_at "pins") (di_seq ?_)
      walk_at "go"
      refine lc_none rfl (by simp [signs]; simp at hlen; rw [sizeLine_eq]; omega) (fun i d hd => ?_) ?_
      · obtain ⟨q, rfl, hq⟩ := fig i d hd
        unfold Turn1
        walk_at "go"
        refine InS.sign ?_
        walk_at "go"
        exact ⟨rfl, rfl⟩
      · walk_at "go"
        refine IxS.str (by assumption) (by assumption) ?_
        have hz : V.str ⟨#[c]⟩ = V.str "0" → V.str (SX.S (c :: l)) = V.str "0" := fun q => by
          have q1 : (⟨#[c]⟩ : Str) = "0" := by simpa using q
          have q2 : [c] = [48] := SX.S_inj (b := [48]) q1
          have q3 : c = 48 := by simpa using q2
          have q4 := hzero q3
          subst q4
          rw [TL.numL_lt (by decide)] at e
          rw [← e]
          rfl
        walk_at "go"
        · refine IntS.str hv.1 hv.2 ?_
          walk_at "go"
          exact k
        · exact absurd (hz (by assumption)) (by assumption)
        · refine IntS.str hv.1 hv.2 ?_
          walk_at "go"
          exact k
    · rw [hw] at hv k ⊢
      have hcut := cutS_tail (c := 45) (l := c :: l)
      have e3 : decide (V.str (cutS (SX.S (45 :: c :: l)) none (some 1)) = V.str "-") = true := by
        rw [cutS_one]; rfl
      have e1' := e1
      have e2' := e2
      have hsz' := hsz
      have hat' := hat
      have fig' := fig
      rw [← hcut] at e1' e2' hsz' hat' fig'
      have hne : decide (V.str ⟨#[c]⟩ = V.str "0") = false := by
        simp
        intro q
        have q2 : [c] = [48] := SX.S_inj (b := [48]) q
        exact hi (hzero (by simpa using q2))
      walk_at "go"
      refine de_lc (own := [("sign", 2)]) (by assumption) (by walk_at "blk") (by walk_at "pins") (di_seq ?_)
      walk_at "go"
      refine lc_none rfl (by rw [hcut]; simp [signs]; simp at hlen; rw [sizeLine_eq]; omega) (fun i d hd => ?_) ?_
      · obtain ⟨q, rfl, hq⟩ := fig' i d hd
        unfold Turn1
        walk_at "go"
        refine InS.sign ?_
        walk_at "go"
        exact ⟨rfl, rfl⟩
      · walk_at "go"
        refine IxS.str (by assumption) (by assumption) ?_
        walk_at "go"
        refine IntS.str hv.1 hv.2 ?_
        walk_at "go"
        exact k
end
local macro_rules | `(tactic| walk_at "h:numbers_of") => `(tactic| (have : Sl n_numbers_of 0 "words" := rfl; have : Sl n_numbers_of 1 "line" := rfl; have : Sl n_numbers_of 2 "found" := rfl; have : Sl n_numbers_of 3 "word" := rfl; have : Nm (defScope s_numbers_of) "words" .local := rfl; have : Nm (defScope s_numbers_of) "line" .local := rfl; have : Nm (defScope s_numbers_of) "found" .local := rfl; have : Nm (defScope s_numbers_of) "BadText" .globalImplicit := rfl; have : Nm (defScope s_numbers_of) "tuple" .globalImplicit := rfl; (show DB _ _ [some _, some _, none, none] (defBody s_numbers_of) _)))
section
variable {P : Program} {w : World} {K : PySem.W.Frag} {mg : Str → Option Value} {base : Heap}
theorem ok_numbers_of {f : Addr} {fd : FuncData} (F : L2.Fun K "numbers_of" "numbers_of" s_numbers_of f fd) (h3 : mg "tuple" = none) (G : GFn P w K mg base 1 "number_of" 1 preNumOf) : FnOk P w K mg base CX0 2 f fd p_numbers_of (spD K 2 preNumsOf) := by
  refine okD (N := n_numbers_of) [true, false] F sc_numbers_of rfl (by decide) ?_ ?_
  · rintro ds Φ _ ⟨is, l, rfl, _⟩
    exact imm_at1 (imm_cons imm_int imm_nil)
  · rintro X f ds Φ B hF J hr hp _ ⟨is, l, rfl, hl, ok, k⟩
    walk_at "h:numbers_of"
    have ia : ∀ x ∈ strsD (is.map numW), Imm x := imm_strsD
    walk_at "go"
    refine ds_setLcS (own := [("word", 3)]) (by assumption) (by walk_at "nm") (by walk_at "nm") (by walk_at "pin") (by walk_at "swap") (by walk_at "blk") (by walk_at "pins") (di_seq ?_)
    walk_at "go"
    refine lc_fmS (fun d => match d with | .str z => (intText? z).map .int | _ => none) 0 rfl (by decide) (by simp [strsD]; rw [sizeLine_eq]; omega) (fun i d hd => ?_) ?_
    · obtain ⟨z, hz, rfl⟩ := map_get hd
      obtain ⟨q, hq, rfl⟩ : ∃ q, is[i]? = some q ∧ z = numW q := by
        rw [List.getElem?_map] at hz
        cases e : is[i]? with
        | none => rw [e] at hz; cases hz
        | some q => rw [e] at hz; exact ⟨q, rfl, (Option.some.inj hz).symm⟩
      have hs := ok q (List.mem_of_getElem? hq)
      have hv := (numW_val (i := q) (by unfold Small at hs; omega)).1
      unfold Turn1
      walk_at "go"
      exact ⟨by simp [hv], rfl⟩
    · rw [show (strsD (is.map numW)).filterMap (fun d => match d with | .str z => (intText? z).map D.int | _ => none) = is.map .int by
        clear k hl ia
        unfold strsD
        rw [List.map_map]
        induction is with
        | nil => rfl
        | cons q is ih =>
          have hv := (numW_val (i := q) (by have := ok q List.mem_cons_self; unfold Small at this; omega)).1
          simp [hv] at ih ⊢
          exact ih fun i hi => ok i (List.mem_cons_of_mem _ hi)]
      walk_at "go"
      have hin : inV .non (is.map V.int) = false := by
        clear ok hl k ia
        induction is with
        | nil => rfl
        | cons a is ih => simpa [inV, eqV] using ih
      refine InS.flat (x := .non) rfl rfl rfl rfl (leafs_ints is) rfl (by simp [flatV]) ?_
      walk_at "go"
      exact k
end
local macro_rules | `(tactic| walk_at "h:read") => `(tactic| (have : Sl n_read 0 "text" := rfl; have : Sl n_read 1 "lines" := rfl; have : Sl n_read 2 "words" := rfl; have : Sl n_read 3 "worths" := rfl; have : Sl n_read 4 "rows" := rfl; have : Sl n_read 5 "number" := rfl; have : Sl n_read 6 "line" := rfl; have : Sl n_read 7 "program" := rfl; have : Nm (defScope s_read) "text" .local := rfl; have : Nm (defScope s_read) "lines" .local := rfl; have : Nm (defScope s_read) "words" .local := rfl; have : Nm (defScope s_read) "worths" .local := rfl; have : Nm (defScope s_read) "rows" .local := rfl; have : Nm (defScope s_read) "number" .local := rfl; have : Nm (defScope s_read) "line" .local := rfl; have : Nm (defScope s_read) "program" .local := rfl; have : Nm (defScope s_read) "HEAD" .globalImplicit := rfl; have : Nm (defScope s_read) "BadText" .globalImplicit := rfl; have : Nm (defScope s_read) "numbers_of" .globalImplicit := rfl; have : Nm (defScope s_read) "enumerate" .globalImplicit := rfl; have : Nm (defScope s_read) "SHAPES" .globalImplicit := rfl; have : Nm (defScope s_read) "len" .globalImplicit := rfl; have : Nm (defScope s_read) "tuple" .globalImplicit := rfl; have : Nm (defScope s_read) "need_program" .globalImplicit := rfl; (show DB _ _ [some _, none, none, none, none, none, none, none] (defBody s_read) _)))
section
variable {P : Program} {w : World} {K : PySem.W.Frag} {mg : Str → Option Value} {base : Heap}
theorem ok_read {f : Addr} {fd : FuncData} (F : L2.Fun K "read" "read" s_read f fd) (h1 : mg "len" = none) (h2 : mg "enumerate" = none) (h5 : mg "tuple" = none) (c1 : GlobD K mg "HEAD" (.str "worths")) (S : KD K w mg "SHAPES" shapes) (G : GFn P w K mg base 2 "numbers_of" 2 preNumsOf) (G2 : GFn P w K mg base 3 "need_program" 1 preNeedOk) : FnOk P w K mg base CX0 4 f fd p_read (spD K 1 preRead) := by
  refine okD (N := n_read) [false] F sc_read rfl (by decide) ?_ ?_
  · rintro ds Φ _ ⟨p, rfl, _⟩
    exact imm_at0 (imm_cons imm_str imm_nil)
  · rintro X f ds Φ B hF J hr hp _ ⟨p, rfl, ok, k⟩
    walk_at "h:read"
    walk_at "go"
    have hw := ok.wl
    have hr' := ok.rl
    refine SplitS.mk rfl (by have := Prog.textlen ok; rw [sizeLine_eq]; omega) ?_
    rw [split_text]
    walk_at "go"
    refine SplitS.mk rfl (by have := Prog.headlen ok; rw [sizeLine_eq]; omega) ?_
    rw [split_line (by simp) (head_free (.inr rfl))]
    walk_at "go"
    rw [show cutA (strsD ("worths" :: p.ws.map numW)) (some 1) none = strsD (p.ws.map numW) from cutA_tail]
    refine ⟨p.ws, 0, rfl, by omega, fun i m => by have := ok.wv i m; unfold Small; omega, ?_⟩
    walk_at "go"
    refine ds_for (by assumption) (di_enum (by assumption) (by assumption) (by walk_at "nm") (by assumption) ?_)
    walk_at "go"
    rw [show cutA (strsD p.lines) (some 1) none = (p.rows.map fun r => lineW r.ws).map D.str from cutA_tail]
    refine ⟨rfl, fun i δ => ∃ (x2 x5 x6 : Option D), δ = [some (.str p.text), some (.lst (strsD p.lines)), x2, some (.tup (p.ws.map .int)), some (.lst (rowsD (p.rows.take i))), x5, x6, none], ⟨_, _, _, rfl⟩, ?_, ?_⟩
    · rintro i d δ2 hd ⟨x2, x5, x6, rfl⟩
      obtain ⟨d, hd2, rfl⟩ := enD_get hd
      obtain ⟨l, hl, rfl⟩ := map_get hd2
      obtain ⟨r, hr2, rfl⟩ : ∃ r, p.rows[i]? = some r ∧ l = lineW r.ws := by
        rw [List.getElem?_map] at hl
        cases e : p.rows[i]? with
        | none => rw [e] at hl; cases hl
        | some r => rw [e] at hl; exact ⟨r, rfl, (Option.some.inj hl).symm⟩
      have okr := ok.rv r (List.mem_of_getElem? hr2)
      have hil : i < p.rows.length := (List.getElem?_eq_some_iff.mp hr2).1
      have lk : (shapes.lookup r.nm).isSome = true := by rw [r.look]; rfl
      have lk2 := r.look
      have e1 : decide (V.int ((strsD r.ws).length : Nat) = V.int ((r.sh.length : Nat) + 1)) = true := by simp [r.shl, strsD, Row.ws]
      have e2 : r.sh.length ≤ sizeLine := by rw [r.shl, sizeLine_eq]; cases r <;> simp [Row.args]
      have hsm : ∀ q ∈ r.args, Small q := Row.small okr (by omega) (by omega)
      have hal : r.args.length ≤ 2 := by have := r.wl; simp [Row.ws] at this; omega
      have iar : ∀ x ∈ r.args.map D.int, Imm x := imm_map fun _ => imm_int
      have hri := r.imm
      have hsz : (rowsD (p.rows.take i)).length < sizeLine := by rw [sizeLine_eq]; simp [rowsD]; omega
      refine ⟨[5, 6], ?_⟩
      walk_at "go"
      refine SplitS.mk rfl (by have := Row.linelen okr (by omega) (by omega); rw [sizeLine_eq]; omega) ?_
      rw [split_line (by simp [Row.ws]) (words_free (.inr rfl))]
      walk_at "go"
      rw [show cutA (strsD r.ws) (some 1) none = strsD (r.args.map numW) from cutA_tail]
      refine ⟨r.args, _, rfl, by omega, hsm, ?_⟩
      walk_at "go"
      have et : rowsD (p.rows.take (i + 1)) = rowsD (p.rows.take i) ++ [r.d] := by rw [List.take_add_one, hr2]; simp [rowsD]
      refine ⟨some (.lst (strsD r.ws)), some (.int i), some (.str (lineW r.ws)), ?_⟩
      rw [et]
      rfl
    · rintro δ2 ⟨x2, x5, x6, rfl⟩
      rw [enD_len, List.length_map, List.length_map, List.take_length]
      have irs : ∀ x ∈ rowsD p.rows, Imm x := rowsD_imm
      walk_at "go"
      exact k
end
local macro_rules | `(tactic| walk_at "h:l_dice") => `(tactic| (have : Sl n_l_dice 0 "_law_script" := rfl; have : Sl n_l_dice 1 "_law_mixed_here" := rfl; have : Sl n_l_dice 2 "_law_cell" := rfl; have : Nm (defScope s_l_dice) "_law_script" .local := rfl; have : Nm (defScope s_l_dice) "_law_mixed_here" .local := rfl; have : Nm (defScope s_l_dice) "_law_cell" .local := rfl; have : Nm (defScope s_l_dice) "int" .globalImplicit := rfl; have : Nm (defScope s_l_dice) "len" .globalImplicit := rfl; (show DB _ _ [some _, none, none] (defBody s_l_dice) _)))
section
variable {P : Program} {w : World} {K : PySem.W.Frag} {mg : Str → Option Value} {base : Heap}
theorem ok_dice {f : Addr} {fd : FuncData} (F : L2.Fun K "_law_dice" "_law_dice" s_l_dice f fd) (h3 : mg "len" = none) (h4 : mg "int" = none) : FnOk P w K mg base CX0 1 f fd p_l_dice (spD K 1 preDice) := by
  refine okD (N := n_l_dice) [false] F sc_l_dice rfl (by decide) ?_ ?_
  · rintro ds Φ _ ⟨g, rfl, _⟩
    exact imm_at0 (imm_cons imm_fzi imm_nil)
  · rintro X f ds Φ B hF J hr hp _ ⟨sc, rfl, hl, k⟩
    walk_at "h:l_dice"
    walk_at "go"
    refine ds_for (by assumption) (di_seq ?_)
    walk_at "go"
    refine ⟨rfl, fun i δ => ∃ m c, 0 ≤ m ∧ m < 2147483647 ∧ δ = [some (.fz (sc.map .int)), some (.int m), c], ⟨0, _, by decide, by decide, rfl⟩, ?_, ?_⟩
    · rintro i d δ2 hd ⟨m, c, m0, m1, rfl⟩
      obtain ⟨q, hq, rfl⟩ := map_get hd
      refine ⟨[2], ?_⟩
      walk_at "go"
      exact ⟨_, _, Int.emod_nonneg _ (by decide), Int.emod_lt_of_pos _ (by decide), rfl⟩
    · rintro δ2 ⟨m, c, m0, m1, rfl⟩
      walk_at "go"
      refine k ⟨sc, 0, _, 0⟩ ⟨Int.le_refl _, ?_, Int.le_refl _, hl⟩
      show 0 ≤ m * _
      split
      · omega
      · omega
end
local macro_rules | `(tactic| walk_at "h:l_next") => `(tactic| (have : Sl n_l_next 0 "_law_dice_here" := rfl; have : Sl n_l_next 1 "_law_many" := rfl; have : Sl n_l_next 2 "_law_found" := rfl; have : Sl n_l_next 3 "_law_cell" := rfl; have : Nm (defScope s_l_next) "_law_dice_here" .local := rfl; have : Nm (defScope s_l_next) "_law_many" .local := rfl; have : Nm (defScope s_l_next) "_law_found" .local := rfl; have : Nm (defScope s_l_next) "_law_cell" .local := rfl; have : Nm (defScope s_l_next) "len" .globalImplicit := rfl; (show DB _ _ [some _, some _, none, none] (defBody s_l_next) _)))
section
variable {P : Program} {w : World} {K : PySem.W.Frag} {mg : Str → Option Value} {base : Heap}
theorem ok_next {f : Addr} {fd : FuncData} (F : L2.Fun K "_law_next" "_law_next" s_l_next f fd) (hlen : mg "len" = none) : FnOk P w K mg base CX0 1 f fd p_l_next (spD K 2 preNext) := by
  refine okD (N := n_l_next) [true, false] F sc_l_next rfl (by decide) ?_ ?_
  · rintro ds Φ _ ⟨g, n, rfl, _⟩
    exact imm_at1 (imm_cons imm_int imm_nil)
  · rintro X f ds Φ B hF J hr hp _ ⟨⟨sc, gi, gm, gr⟩, n, rfl, n0, n1, ok, k⟩
    walk_at "h:l_next"
    have h63 := ok.l
    unfold Dice.d
    walk_at "go"
    · exact k _ ⟨sc, gi, gm, gr / n⟩ (Int.emod_nonneg _ (by omega)) (Int.emod_lt_of_pos _ n0) ⟨ok.i, ok.m, Int.ediv_nonneg ok.r (by omega), ok.l⟩
    · rename_i h1 h2
      have i0 := ok.i
      simp only [List.length_map] at h2
      obtain ⟨c, _, hc⟩ := atI_ints (l := sc) (i := gi + 1 - 1) (by have := ok.i; simp at this; omega) (by omega)
      refine IxS.seq rfl rfl hc imm_int ?_
      walk_at "go"
      · rename_i h3
        exact k _ ⟨sc, gi + 1, gm, c / n⟩ (Int.emod_nonneg _ (by omega)) (Int.emod_lt_of_pos _ n0) ⟨Int.add_nonneg i0 (by decide), ok.m, Int.ediv_nonneg (Int.le_trans (show (0 : Int) ≤ 10 ^ 18 by decide) h3) (by omega), ok.l⟩
      · exact k _ ⟨sc, gi + 1, gm, 0⟩ (Int.emod_nonneg _ (by omega)) (Int.emod_lt_of_pos _ n0) ⟨Int.add_nonneg i0 (by decide), ok.m, Int.le_refl _, ok.l⟩
    · exact k _ ⟨sc, gi + 1, gm * 48271 % 2147483647, gr⟩ (Int.emod_nonneg _ (by omega)) (Int.emod_lt_of_pos _ n0) ⟨by have := ok.i; simp at this ⊢; omega, Int.emod_nonneg _ (by decide), ok.r, ok.l⟩
end
local macro_rules | `(tactic| walk_at "h:l_like") => `(tactic| (have : Sl n_l_like 0 "_law_found" := rfl; have : Sl n_l_like 1 "_law_due" := rfl; have : Sl n_l_like 2 "_law_k" := rfl; have : Nm (defScope s_l_like) "_law_found" .local := rfl; have : Nm (defScope s_l_like) "_law_due" .local := rfl; have : Nm (defScope s_l_like) "_law_k" .local := rfl; have : Nm (defScope s_l_like) "isinstance" .globalImplicit := rfl; have : Nm (defScope s_l_like) "bool" .globalImplicit := rfl; have : Nm (defScope s_l_like) "str" .globalImplicit := rfl; have : Nm (defScope s_l_like) "int" .globalImplicit := rfl; have : Nm (defScope s_l_like) "tuple" .globalImplicit := rfl; have : Nm (defScope s_l_like) "list" .globalImplicit := rfl; have : Nm (defScope s_l_like) "len" .globalImplicit := rfl; have : Nm (defScope s_l_like) "range" .globalImplicit := rfl; have : Nm (defScope s_l_like) "_law_like" .globalImplicit := rfl; (show DB _ _ [some _, some _, none] (defBody s_l_like) _)))
section
variable {P : Program} {w : World} {K : PySem.W.Frag} {mg : Str → Option Value} {base : Heap}
theorem ok_like {f : Addr} {fd : FuncData} (F : L2.Fun K "_law_like" "_law_like" s_l_like f fd) (h1 : mg "len" = none) (h2 : mg "isinstance" = none) (h3 : mg "bool" = none) (h4 : mg "str" = none) (h5 : mg "int" = none) (h6 : mg "tuple" = none) (h7 : mg "list" = none) (h8 : mg "range" = none)
    (hm : mg "_law_like" = some (.ref f)) (hk : PySem.W.keepIn K (.ref f) = true) (hb : Binds K fd p_l_like []) : ∀ n, FnOk P w K mg base CX0 (n + 1) f fd p_l_like (spD K 2 (preLike n)) := by
  intro n
  induction n with
  | zero =>
    refine okD (N := n_l_like) [false, false] F sc_l_like rfl (by decide) ?_ ?_
    · rintro ds Φ _ ⟨d, rfl, h, _⟩
      exact imm_at0 (imm_cons h.imm (imm_cons h.imm imm_nil))
    · rintro X f ds Φ B hF J hr hp _ ⟨d, rfl, h, k⟩
      walk_at "h:l_like"
      have him := h.imm
      cases h <;> (walk_at "go"; simpa using k)
  | succ n ih =>
    have G : GFn P w K mg base (n + 1) "_law_like" 2 (preLike n) := ⟨⟨_, fd, p_l_like, hm, hk, hb, ih⟩⟩
    refine okD (N := n_l_like) [false, false] F sc_l_like rfl (by decide) ?_ ?_
    · rintro ds Φ _ ⟨d, rfl, h, _⟩
      exact imm_at0 (imm_cons h.imm (imm_cons h.imm imm_nil))
    · rintro X f ds Φ B hF J hr hp _ ⟨d, rfl, h, k⟩
      walk_at "h:l_like"
      have him := h.imm
      cases h with
      | @tup _ xs hl hx =>
        have e0 : (2 : Nat) = 2 := rfl
        walk_at "go"
        · refine ds_for (by assumption) (di_range (by assumption) (by assumption) (by walk_at "nm") (by assumption) ?_)
          walk_at "go"
          refine ⟨rfl, fun i δ => ∃ c, δ = [some (.tup xs), some (.tup xs), c], ⟨_, rfl⟩, ?_, ?_⟩
          · rintro i d δ2 hd ⟨c, rfl⟩
            obtain ⟨hi, rfl⟩ := rngD_get hd
            have hi' : i < xs.length := by simpa using hi
            obtain ⟨j, hj, ej, ho⟩ := atI_of (l := xs) (i := (0 : Int) + (i : Nat)) (by omega) (by omega)
            have hp : Pl n xs[j] := hx _ (List.getElem_mem _)
            have hpi := hp.imm
            refine ⟨[2], ?_⟩
            walk_at "go"
            refine IxS.seq rfl rfl ho hpi ?_
            walk_at "go"
            refine IxS.seq rfl rfl ho hpi ?_
            walk_at "go"
            exact ⟨_, rfl⟩
          · rintro δ2 ⟨c, rfl⟩
            walk_at "go"
            exact k
        · rename_i h; exact absurd rfl h
      | _ => walk_at "go"; simpa using k
end
local macro_rules | `(tactic| walk_at "h:l_straight") => `(tactic| (have : Sl n_l_straight 0 "_law_d" := rfl; have : Sl n_l_straight 1 "_law_at" := rfl; have : Sl n_l_straight 2 "_law_way" := rfl; have : Nm (defScope s_l_straight) "_law_d" .local := rfl; have : Nm (defScope s_l_straight) "_law_at" .local := rfl; have : Nm (defScope s_l_straight) "_law_way" .local := rfl; have : Nm (defScope s_l_straight) "_law_next" .globalImplicit := rfl; (show DB _ _ [some _, some _, none] (defBody s_l_straight) _)))
section
variable {P : Program} {w : World} {K : PySem.W.Frag} {mg : Str → Option Value} {base : Heap}
theorem ok_straight {f : Addr} {fd : FuncData} (F : L2.Fun K "_law_straight" "_law_straight" s_l_straight f fd) (G : GFn P w K mg base 1 "_law_next" 2 preNext) : FnOk P w K mg base CX0 2 f fd p_l_straight (spD K 2 preStraight) := by
  refine okD (N := n_l_straight) [true, false] F sc_l_straight rfl (by decide) ?_ ?_
  · rintro ds Φ _ ⟨g, n, rfl, _⟩
    exact imm_at1 (imm_cons imm_int imm_nil)
  · rintro X f ds Φ B hF J hr hp _ ⟨g, a, rfl, ok, a0, a1, k⟩
    walk_at "h:l_straight"
    walk_at "go"
    intro kk g1 k0 k1 ok1
    walk_at "go"
    · exact k (.say (a + 1)) g1 ⟨by omega, by omega⟩ .say ok1
    · rename_i hne
      obtain ⟨o, ho⟩ : ∃ o : Op4, atI [D.str "load", D.str "add", D.str "take", D.str "store", D.str "add"] kk = some (.str o.s) := by
        have : kk = 0 ∨ kk = 1 ∨ kk = 2 ∨ kk = 3 ∨ kk = 4 := by omega
        rcases this with rfl | rfl | rfl | rfl | rfl
        · exact ⟨.load, rfl⟩
        · exact ⟨.add, rfl⟩
        · exact ⟨.take, rfl⟩
        · exact ⟨.store, rfl⟩
        · exact ⟨.add, rfl⟩
      refine IxS.seq rfl rfl ho imm_str ?_
      walk_at "go"
      intro v g2 v0 v1 ok2
      walk_at "go"
      exact k (.op o (5 + v) (a + 1)) g2 ⟨⟨by omega, by omega⟩, by omega, by omega⟩ .op ok2
end
local macro_rules | `(tactic| walk_at "h:l_fork") => `(tactic| (have : Sl n_l_fork 0 "_law_d" := rfl; have : Sl n_l_fork 1 "_law_at" := rfl; have : Sl n_l_fork 2 "_law_yes" := rfl; have : Sl n_l_fork 3 "_law_begin" := rfl; have : Sl n_l_fork 4 "_law_no" := rfl; have : Sl n_l_fork 5 "_law_k" := rfl; have : Nm (defScope s_l_fork) "_law_d" .cell := rfl; have : Nm (defScope s_l_fork) "_law_at" .cell := rfl; have : Nm (defScope s_l_fork) "_law_yes" .local := rfl; have : Nm (defScope s_l_fork) "_law_begin" .cell := rfl; have : Nm (defScope s_l_fork) "_law_no" .local := rfl; have : Nm (defScope s_l_fork) "range" .globalImplicit := rfl; have : Nm (defScope s_l_fork) "_law_next" .globalImplicit := rfl; have : Nm (defScope s_l_fork) "len" .globalImplicit := rfl; (show DB _ _ [some _, some _, none, none, none, none] (defBody s_l_fork) _)))
section
variable {P : Program} {w : World} {K : PySem.W.Frag} {mg : Str → Option Value} {base : Heap}
theorem ok_fork {f : Addr} {fd : FuncData} (F : L2.Fun K "_law_fork" "_law_fork" s_l_fork f fd) (h1 : mg "len" = none) (h2 : mg "range" = none) (G : GFn P w K mg base 1 "_law_next" 2 preNext) (G2 : GFn P w K mg base 2 "_law_straight" 2 preStraight) : FnOk P w K mg base CX0 3 f fd p_l_fork (spD K 2 preFork) := by
  refine okD (N := n_l_fork) [true, false] F sc_l_fork rfl (by decide) ?_ ?_
  · rintro ds Φ _ ⟨g, n, rfl, _⟩
    exact imm_at1 (imm_cons imm_int imm_nil)
  · rintro X f ds Φ B hF J hr hp _ ⟨g, a, rfl, ok, a0, a1, k⟩
    walk_at "h:l_fork"
    walk_at "go"
    refine ds_setLc (own := [("_law_k", 5)]) (by assumption) (by walk_at "nm") (by walk_at "nm") (by walk_at "pin") (by walk_at "swap") (by walk_at "blk") (by walk_at "pins") (di_range (by assumption) (by assumption) (by walk_at "nm") (by assumption) ?_)
    walk_at "go"
    intro n g1 n0 n1 okg1
    walk_at "go"
    refine ⟨rfl, by rw [rngD_len, sizeLine_eq]; omega, fun i acc δ => ∃ (gi : Dice) (rs : List Row), gi.Ok ∧ acc = rowsD rs ∧ rs.length = i ∧ (∀ r ∈ rs, r.Line ∧ r.Ok 8 (a + 2 + i + 1)) ∧ δ = [some gi.d, some (.int a), none, none, none, none], ⟨g1, [], okg1, rfl, rfl, by simp, rfl⟩, ?_, ?_⟩
    · rintro i d acc δ2 hd _ ⟨gi, rs, oki, rfl, hl, hrs, rfl⟩
      obtain ⟨hi, rfl⟩ := rngD_get hd
      unfold Turn1
      walk_at "go"
      intro r g3 hr3 hli ok3
      walk_at "go"
      exact ⟨g3, rs ++ [r], ok3, by simp [addO, rowsD], by simp [hl], fun q m => by
        rcases List.mem_append.mp m with m | m
        · exact ⟨(hrs q m).1, (hrs q m).2.mono (Int.le_refl _) (by omega)⟩
        · rw [List.mem_singleton.mp m]
          exact ⟨hli, hr3.mono (Int.le_refl _) (by omega)⟩, rfl⟩
    · rintro acc δ2 ⟨g2, yes, ok2, rfl, hly, hyes, rfl⟩
      rw [rngD_len] at hly hyes
      walk_at "go"
      have hy1 : 1 ≤ yes.length := by omega
      have hy2 : yes.length ≤ 2 := by omega
      have eb : ((rowsD yes).length : Int) = yes.length := by simp [rowsD]
      rw [eb]
      refine ds_setLc (own := [("_law_k", 5)]) (by assumption) (by walk_at "nm") (by walk_at "nm") (by walk_at "pin") (by walk_at "swap") (by walk_at "blk") (by walk_at "pins") (di_range (by assumption) (by assumption) (by walk_at "nm") (by assumption) ?_)
      walk_at "go"
      intro m g4 m0 m1 okg4
      walk_at "go"
      refine ⟨rfl, by rw [rngD_len, sizeLine_eq]; omega, fun i acc δ => ∃ (gi : Dice) (rs : List Row), gi.Ok ∧ acc = rowsD rs ∧ rs.length = i ∧ (∀ r ∈ rs, r.Line ∧ r.Ok 8 (a + 2 + yes.length + i + 1)) ∧ δ = [some gi.d, some (.int a), some (.lst (rowsD yes)), some (.int (a + 2 + yes.length)), none, none], ⟨g4, [], okg4, rfl, rfl, by simp, rfl⟩, ?_, ?_⟩
      · rintro i d acc δ2 hd _ ⟨gi, rs, oki, rfl, hl, hrs, rfl⟩
        obtain ⟨hi, rfl⟩ := rngD_get hd
        unfold Turn1
        walk_at "go"
        intro r g3 hr3 hli ok3
        walk_at "go"
        exact ⟨g3, rs ++ [r], ok3, by simp [addO, rowsD], by simp [hl], fun q m => by
          rcases List.mem_append.mp m with m | m
          · exact ⟨(hrs q m).1, (hrs q m).2.mono (Int.le_refl _) (by omega)⟩
          · rw [List.mem_singleton.mp m]
            exact ⟨hli, hr3.mono (Int.le_refl _) (by omega)⟩, rfl⟩
      · rintro acc δ2 ⟨g5, no, ok5, rfl, hln, hno, rfl⟩
        rw [rngD_len] at hln hno
        have en : ((rowsD no).length : Int) = no.length := by simp [rowsD]
        have hn1 : 1 ≤ no.length := by omega
        have hn2 : no.length ≤ 2 := by omega
        obtain ⟨ys, y, rfl⟩ := last_of hy1
        have hy := hyes y (by simp)
        have ey : rowsD (ys ++ [y]) = rowsD ys ++ [y.d] := by simp [rowsD]
        have el : (ys ++ [y]).length = ys.length + 1 := by simp
        have hat : atI (rowsD ys ++ [y.d]) (-1) = some y.d := atI_last
        have hyi := y.imm
        have ird : ∀ x ∈ rowsD ys, Imm x := rowsD_imm
        have irn : ∀ x ∈ rowsD no, Imm x := rowsD_imm
        have iar : ∀ x ∈ y.args.map D.int, Imm x := imm_map fun _ => imm_int
        rw [ey]
        walk_at "go"
        refine IxS.seq rfl rfl hat hyi ?_
        walk_at "go"
        have hcl : ∀ z : D, (cutA (D.str y.nm :: y.args.map D.int) none (some (-1))).length + [z].length ≤ sizeLine := fun z => by
          have h1 : (cutA (D.str y.nm :: y.args.map D.int) none (some (-1))).length ≤ 3 := by
            have h2 : (D.str y.nm :: y.args.map D.int).length ≤ 3 := by have := y.wl; simpa [Row.ws] using this
            refine Nat.le_trans ?_ h2
            unfold cutA
            rw [List.length_take, List.length_drop]
            omega
          rw [sizeLine_eq]; simp only [List.length_singleton]; omega
        refine AddS.tup rfl rfl (imm_app (imm_cut (imm_cons imm_str iar)) (imm_cons imm_int imm_nil)) (hcl _) ?_
        rw [Row.to_d hy.1]
        walk_at "go"
        have hix : ixN (rowsD ys ++ [y.d]).length (-1) = some (rowsD ys).length := by
          rw [List.length_append, List.length_singleton]
          exact ixN_last _
        refine SetS.lst rfl hix ?_
        rw [set_last]
        have hz := (Row.to (a + 2 + ((ys ++ [y]).length : Nat) + ((rowsD no).length : Nat)) y).imm
        walk_at "go"
        intro v g6 v0 v1 ok6
        walk_at "go"
        have hyl : ys.length ≤ 1 := by simp at hy2; omega
        refine AddS.lst rfl rfl (imm_app (imm_cons (imm_tup (imm_cons imm_str (imm_cons imm_int (imm_cons imm_int imm_nil)))) (imm_cons (imm_tup (imm_cons imm_str (imm_cons imm_int (imm_cons imm_int imm_nil)))) imm_nil)) (imm_app ird (imm_cons hz imm_nil))) (by rw [sizeLine_eq]; simp [rowsD]; omega) ?_
        walk_at "go"
        refine AddS.lst rfl rfl (imm_app (imm_app (imm_cons (imm_tup (imm_cons imm_str (imm_cons imm_int (imm_cons imm_int imm_nil)))) (imm_cons (imm_tup (imm_cons imm_str (imm_cons imm_int (imm_cons imm_int imm_nil)))) imm_nil)) (imm_app ird (imm_cons hz imm_nil))) irn) (by rw [sizeLine_eq]; simp [rowsD]; omega) ?_
        walk_at "go"
        have key : ∀ z : Int, z = a + 2 + ((ys ++ [y]).length : Nat) + ((rowsD no).length : Nat) → Φ (.lst (rowsD ((.op .load (5 + v) (a + 1)) :: (.test (a + 2) (a + 2 + ((ys ++ [y]).length : Nat))) :: (ys ++ [Row.to z y]) ++ no))) [g6.d, .int a] := fun z ez => by
          have en' : z = a + 3 + ys.length + no.length := by rw [ez, en]; simp; omega
          refine k _ g6 (by simp; omega) (fun q m => ?_) ok6
          have elen : (((.op .load (5 + v) (a + 1)) :: (.test (a + 2) (a + 2 + ((ys ++ [y]).length : Nat))) :: (ys ++ [Row.to z y]) ++ no : List Row).length : Int) = 3 + ys.length + no.length := by simp; omega
          rw [elen]
          simp only [List.cons_append, List.mem_cons, List.mem_append, List.mem_singleton, List.not_mem_nil, or_false] at m
          rcases m with rfl | rfl | (m | rfl) | m
          · exact ⟨⟨by omega, by omega⟩, by omega, by omega⟩
          · exact ⟨⟨by omega, by omega⟩, by simp; omega, by simp; omega⟩
          · exact (hyes q (by simp [m])).2.mono (Int.le_refl _) (by omega)
          · exact Row.to_ok hy.1 hy.2 (by omega) (by omega)
          · exact (hno q m).2.mono (Int.le_refl _) (by simp; omega)
        have kk := key _ rfl
        simpa [rowsD, Row.d, Row.nm, Row.args, Op4.s] using kk
end
local macro_rules | `(tactic| walk_at "h:l_body") => `(tactic| (have : Sl n_l_body 0 "_law_d" := rfl; have : Sl n_l_body 1 "_law_at" := rfl; have : Sl n_l_body 2 "_law_deep" := rfl; have : Sl n_l_body 3 "_law_found" := rfl; have : Sl n_l_body 4 "_law_turn" := rfl; have : Sl n_l_body 5 "_law_here" := rfl; have : Sl n_l_body 6 "_law_way" := rfl; have : Sl n_l_body 7 "_law_inner" := rfl; have : Sl n_l_body 8 "_law_behind" := rfl; have : Nm (defScope s_l_body) "_law_d" .local := rfl; have : Nm (defScope s_l_body) "_law_at" .local := rfl; have : Nm (defScope s_l_body) "_law_deep" .local := rfl; have : Nm (defScope s_l_body) "_law_found" .local := rfl; have : Nm (defScope s_l_body) "_law_turn" .local := rfl; have : Nm (defScope s_l_body) "_law_here" .local := rfl; have : Nm (defScope s_l_body) "_law_way" .local := rfl; have : Nm (defScope s_l_body) "_law_inner" .local := rfl; have : Nm (defScope s_l_body) "_law_behind" .local := rfl; have : Nm (defScope s_l_body) "range" .globalImplicit := rfl; have : Nm (defScope s_l_body) "_law_next" .globalImplicit := rfl; have : Nm (defScope s_l_body) "len" .globalImplicit := rfl; have : Nm (defScope s_l_body) "_law_straight" .globalImplicit := rfl; have : Nm (defScope s_l_body) "_law_fork" .globalImplicit := rfl; have : Nm (defScope s_l_body) "_law_body" .globalImplicit := rfl; (show DB _ _ [some _, some _, some _, none, none, none, none, none, none] (defBody s_l_body) _)))
section
variable {P : Program} {w : World} {K : PySem.W.Frag} {mg : Str → Option Value} {base : Heap}
theorem ok_body {f : Addr} {fd : FuncData} (F : L2.Fun K "_law_body" "_law_body" s_l_body f fd) (h1 : mg "len" = none) (h2 : mg "range" = none) (G : GFn P w K mg base 1 "_law_next" 2 preNext) (G2 : GFn P w K mg base 2 "_law_straight" 2 preStraight) (G3 : GFn P w K mg base 3 "_law_fork" 2 preFork)
    (k : Nat) (n : Nat) (G4 : n = 0 ∨ (GFn P w K mg base (k + 3) "_law_body" 3 (preBody (n - 1)))) (hn : n ≤ 2) : FnOk P w K mg base CX0 (k + 4) f fd p_l_body (spD K 3 (preBody n)) := by
  refine okD (N := n_l_body) [true, false, false] F sc_l_body rfl (by decide) ?_ ?_
  · rintro ds Φ _ ⟨g, n, deep, rfl, _⟩
    exact imm_at1 (imm_cons imm_int (imm_cons imm_int imm_nil))
  · rintro X f ds Φ B hF J hr hp _ ⟨g, a, deep, rfl, ok, a0, a1, d0, d1, k⟩
    walk_at "h:l_body"
    have r1 : Room 1 X.A := Room.mono hr (by omega)
    have r2 : Room 2 X.A := Room.mono hr (by omega)
    have r3 : Room 3 X.A := Room.mono hr (by omega)
    walk_at "go"
    refine ds_for (by assumption) (di_range (by assumption) (by assumption) (by walk_at "nm") (by assumption) ?_)
    walk_at "go"
    intro m g1 m0 m1 ok1
    walk_at "go"
    obtain ⟨c, hc, c6, c78, hin⟩ : ∃ c : Int, bnd deep = 3 * c ∧ 6 ≤ c ∧ c ≤ 78 ∧ (0 < deep → bnd (deep - 1) + 6 = c) := by
      have : deep = 0 ∨ deep = 1 ∨ deep = 2 := by omega
      rcases this with rfl | rfl | rfl
      · exact ⟨6, rfl, by omega, by omega, by omega⟩
      · exact ⟨24, rfl, by omega, by omega, fun _ => rfl⟩
      · exact ⟨78, rfl, by omega, by omega, fun _ => rfl⟩
    refine ⟨rfl, fun i δ => ∃ (gi : Dice) (rs : List Row) (x1 x2 x3 x4 x5 : Option D), gi.Ok ∧ (rs.length : Int) ≤ i * c ∧ RowsOk a rs ∧ δ = [some gi.d, some (.int a), some (.int deep), some (.lst (rowsD rs)), x1, x2, x3, x4, x5], ⟨g1, [], _, _, _, _, _, ok1, by simp, (fun _ m => nomatch m), rfl⟩, ?_, ?_⟩
    · rintro i d δ2 hd ⟨gi, rs, x1, x2, x3, x4, x5, oki, hl, hrs, rfl⟩
      obtain ⟨hi, rfl⟩ := rngD_get hd
      have hi3 : i ≤ 2 := by omega
      have hl2 : (rs.length : Int) ≤ 2 * c := Int.le_trans hl (Int.mul_le_mul_of_nonneg_right (by omega) (by omega))
      have ei : ((i + 1 : Nat) : Int) * c = i * c + c := by rw [Int.natCast_succ, Int.add_mul, Int.one_mul]
      have ir : ∀ x ∈ rowsD rs, Imm x := rowsD_imm
      have hsz : (rowsD rs).length < sizeLine := by rw [sizeLine_eq]; simp [rowsD]; omega
      have eh : ((rowsD rs).length : Int) = rs.length := by simp [rowsD]
      have fin : ∀ (qs : List Row) (g' : Dice) (x1 x2 x3 x4 x5 : Option D), g'.Ok → (qs.length : Int) ≤ c → (∀ r ∈ qs, r.Ok 8 (a + rs.length + qs.length + 1)) → ∃ (gi : Dice) (ss : List Row) (y1 y2 y3 y4 y5 : Option D), gi.Ok ∧ (ss.length : Int) ≤ (i + 1 : Nat) * c ∧ RowsOk a ss ∧ [some g'.d, some (.int a), some (.int deep), some (.lst (rowsD (rs ++ qs))), x1, x2, x3, x4, x5] = [some gi.d, some (.int a), some (.int deep), some (.lst (rowsD ss)), y1, y2, y3, y4, y5] :=
        fun qs g' x1 x2 x3 x4 x5 ok' hq hr => ⟨g', rs ++ qs, x1, x2, x3, x4, x5, ok', by rw [ei]; simp; omega, hrs.app hr, rfl⟩
      refine ⟨[4], ?_⟩
      walk_at "go"
      rw [eh]
      intro way g2 w0 w1 ok2
      refine ⟨_, _, Take.v, ?_⟩
      refine db_cons (ds_if ((?_ : DT X f [some g2.d, some (.int a), some (.int deep), some (.lst (rowsD rs)), some (.int (0 + (i : Int))), some (.int (a + rs.length)), some (.int way), x4, x5] _ fun _ δ' => ∃ g' : Dice, g'.Ok ∧ δ' = [some g'.d, some (.int a), some (.int deep), some (.lst (rowsD rs)), some (.int (0 + (i : Int))), some (.int (a + rs.length)), some (.int way), x4, x5]).mono ?_))
      · walk_at "go"
        · exact ⟨_, ok2, rfl⟩
        all_goals first | exact ⟨_, ok2, rfl⟩ | skip
        all_goals (intro q g3 q0 q1 ok3; walk_at "go")
        all_goals exact ⟨_, ok3, rfl⟩
      · rintro t δ' ⟨g3, ok3, rfl⟩
        constructor
        · intro _
          walk_at "go"
          intro r g4 hr4 _ ok4
          walk_at "go"
          exact ⟨g4, rs ++ [r], _, _, _, _, _, ok4, by rw [ei]; simp; omega, hrs.app (fun q m => by rw [List.mem_singleton.mp m]; exact hr4.mono (Int.le_refl _) (by simp; omega)), by rw [← rowsD_app]; rfl⟩
        · intro _
          walk_at "go"
          · intro qs g4 hq6 hqs ok4
            have iq : ∀ x ∈ rowsD qs, Imm x := rowsD_imm
            refine AddS.lst rfl rfl (imm_app ir iq) (by rw [sizeLine_eq]; simp [rowsD]; omega) ?_
            walk_at "go"
            exact ⟨g4, rs ++ qs, _, _, _, _, _, ok4, by rw [ei]; simp; omega, hrs.app hqs, by rw [← rowsD_app]; rfl⟩
          · rename_i hdp
            rcases G4 with rfl | G4
            · omega
            refine de_call (n := 3) (by assumption) (by assumption) G4 ?_ (by walk_at "nm") ?_
            · assumption
            walk_at "go"
            have hin' := hin (by omega)
            have hlen : (rs.length : Int) + c ≤ 3 * c := by omega
            refine ⟨g3, _, _, rfl, ok3, by omega, by omega, by omega, by omega, ?_⟩
            intro qs g4 hql hqs ok4
            have iq : ∀ x ∈ rowsD qs, Imm x := rowsD_imm
            have eq' : ((rowsD qs).length : Int) = qs.length := by simp [rowsD]
            walk_at "go"
            rw [eq']
            refine ⟨g4, rs ++ ([.op .load deep (a + rs.length + 1), .op .store (2 + deep) (a + rs.length + 2)] ++ qs ++ [.op .load (2 + deep) (a + rs.length + 2 + qs.length + 1), .op .take 0 (a + rs.length + 2 + qs.length + 2), .op .store (2 + deep) (a + rs.length + 2 + qs.length + 3)] ++ [.test (a + rs.length + 2 + qs.length + 4) (a + rs.length + 2)]), some (.int (0 + (i : Int))), some (.int (a + rs.length)), some (.int way), some (.lst (rowsD qs)), some (.int (a + rs.length + 2 + qs.length)), ok4, by rw [ei]; simp; omega, hrs.app (fun q m => ?_), ?_⟩
            · have el : (([.op .load deep (a + rs.length + 1), .op .store (2 + deep) (a + rs.length + 2)] ++ qs ++ [.op .load (2 + deep) (a + rs.length + 2 + qs.length + 1), .op .take 0 (a + rs.length + 2 + qs.length + 2), .op .store (2 + deep) (a + rs.length + 2 + qs.length + 3)] ++ [.test (a + rs.length + 2 + qs.length + 4) (a + rs.length + 2)] : List Row).length : Int) = qs.length + 6 := by simp; omega
              rw [el]
              simp only [List.cons_append, List.nil_append, List.mem_cons, List.mem_append, List.mem_singleton, List.not_mem_nil, or_false] at m
              rcases m with rfl | rfl | (m | rfl | rfl | rfl) | rfl
              · exact ⟨⟨by omega, by omega⟩, by omega, by omega⟩
              · exact ⟨⟨by omega, by omega⟩, by omega, by omega⟩
              · exact (hqs q m).mono (Int.le_refl _) (by omega)
              · exact ⟨⟨by omega, by omega⟩, by omega, by omega⟩
              · exact ⟨⟨by omega, by omega⟩, by omega, by omega⟩
              · exact ⟨⟨by omega, by omega⟩, by omega, by omega⟩
              · exact ⟨⟨by omega, by omega⟩, by omega, by omega⟩
            · simp only [← rowsD_app, ← List.append_assoc]
              rfl
          · exact ⟨g3, rs, _, _, _, _, _, ok3, by rw [ei]; omega, hrs, rfl⟩
    · rintro δ2 ⟨gi, rs, x1, x2, x3, x4, x5, oki, hl, hrs, rfl⟩
      walk_at "go"
      rw [rngD_len] at hl
      exact k rs gi (by rw [hc]; refine Int.le_trans hl (Int.mul_le_mul_of_nonneg_right (by omega) (by omega))) hrs oki
end
local macro_rules | `(tactic| walk_at "h:l_mixed") => `(tactic| (have : Sl n_l_mixed 0 "_law_d" := rfl; have : Sl n_l_mixed 1 "_law_program" := rfl; have : Sl n_l_mixed 2 "_law_worths" := rfl; have : Sl n_l_mixed 3 "_law_rows" := rfl; have : Sl n_l_mixed 4 "_law_left" := rfl; have : Sl n_l_mixed 5 "_law_names" := rfl; have : Sl n_l_mixed 6 "_law_numbers" := rfl; have : Sl n_l_mixed 7 "_law_found" := rfl; have : Sl n_l_mixed 8 "_law_number" := rfl; have : Sl n_l_mixed 9 "_law_row" := rfl; have : Sl n_l_mixed 10 "_law_told" := rfl; have : Sl n_l_mixed 11 "_law_k" := rfl; have : Sl n_l_mixed 12 "_law_is_worth" := rfl; have : Sl n_l_mixed 13 "_law_order" := rfl; have : Sl n_l_mixed 14 "_law_worth" := rfl; have : Nm (defScope s_l_mixed) "_law_d" .cell := rfl; have : Nm (defScope s_l_mixed) "_law_program" .local := rfl; have : Nm (defScope s_l_mixed) "_law_worths" .cell := rfl; have : Nm (defScope s_l_mixed) "_law_rows" .local := rfl; have : Nm (defScope s_l_mixed) "_law_left" .cell := rfl; have : Nm (defScope s_l_mixed) "_law_names" .cell := rfl; have : Nm (defScope s_l_mixed) "_law_numbers" .local := rfl; have : Nm (defScope s_l_mixed) "_law_found" .local := rfl; have : Nm (defScope s_l_mixed) "_law_number" .local := rfl; have : Nm (defScope s_l_mixed) "_law_row" .local := rfl; have : Nm (defScope s_l_mixed) "_law_told" .local := rfl; have : Nm (defScope s_l_mixed) "_law_k" .local := rfl; have : Nm (defScope s_l_mixed) "_law_is_worth" .local := rfl; have : Nm (defScope s_l_mixed) "_law_order" .local := rfl; have : Nm (defScope s_l_mixed) "list" .globalImplicit := rfl; have : Nm (defScope s_l_mixed) "range" .globalImplicit := rfl; have : Nm (defScope s_l_mixed) "len" .globalImplicit := rfl; have : Nm (defScope s_l_mixed) "enumerate" .globalImplicit := rfl; have : Nm (defScope s_l_mixed) "tuple" .globalImplicit := rfl; (show DB _ _ [some _, some _, none, none, none, none, none, none, none, none, none, none, none, none, none] (defBody s_l_mixed) _)))
section
variable {P : Program} {w : World} {K : PySem.W.Frag} {mg : Str → Option Value} {base : Heap}
theorem ok_mixed {f : Addr} {fd : FuncData} (F : L2.Fun K "_law_mixed" "_law_mixed" s_l_mixed f fd) (h1 : mg "len" = none) (h2 : mg "range" = none) (h3 : mg "list" = none) (h4 : mg "enumerate" = none) (h5 : mg "tuple" = none) (G : GFn P w K mg base 1 "_law_next" 2 preNext) : FnOk P w K mg base CX0 2 f fd p_l_mixed (spD K 2 preMixed) := by
  refine okD (N := n_l_mixed) [true, false] F sc_l_mixed rfl (by decide) ?_ ?_
  · rintro ds Φ _ ⟨g, p, rfl, _⟩
    exact imm_at1 (imm_cons p.imm imm_nil)
  · rintro X f ds Φ B hF J hr hp _ ⟨g, p, rfl, ok, okp, k⟩
    walk_at "h:l_mixed"
    have hw := okp.wl
    have hr' := okp.rl
    have hr0 := okp.r0
    have ia : ∀ x ∈ p.ws.map D.int, Imm x := imm_map fun _ => imm_int
    have ib : ∀ x ∈ p.rows.map Row.d, Imm x := rows_imm
    have ea : ((p.ws.map D.int).length : Int) = p.ws.length := by simp
    have eb : ((p.rows.map Row.d).length : Int) = p.rows.length := by simp
    unfold Prog.d
    walk_at "go"
    refine ds_set (by assumption) (by walk_at "nm") (by walk_at "sto") (by walk_at "pin") ?_ (hs := sw_cell (by assumption) (by with_reducible assumption))
    refine de_lc (own := [("_law_worth", 14)]) (by assumption) (by walk_at "blk") (by walk_at "pins") (di_seq ?_)
    walk_at "go"
    have en : (((p.ws.map D.int).length : Int) - 0).toNat = p.ws.length := by simp
    rw [en, rngD_I]
    refine ⟨rfl, by rw [List.length_map, sizeLine_eq]; omega, fun i acc δ => ∃ (gi : Dice) (ns ls : List Int), gi.Ok ∧ acc = ns.map .int ∧ ns.length = i ∧ (ns ++ ls).Perm (rngI 0 p.ws.length) ∧ δ = [some gi.d, some (.tup [.tup (p.ws.map .int), .tup (p.rows.map Row.d)]), some (.tup (p.ws.map .int)), some (.tup (p.rows.map Row.d)), some (.lst (ls.map .int)), none, none, none, none, none, none, none, none, none, none], ⟨g, [], _, ok, rfl, rfl, List.Perm.refl _, rfl⟩, ?_, ?_⟩
    · rintro i d acc δ2 hd _ ⟨gi, ns, ls, oki, rfl, hn, hpm, rfl⟩
      have hlen := hpm.length_eq
      rw [List.length_append, rngI_len] at hlen
      have hi : i < p.ws.length := by have := (List.getElem?_eq_some_iff.mp hd).1; simpa using this
      have el : ((ls.map D.int).length : Int) = ls.length := by simp
      obtain ⟨q, hq, rfl⟩ := map_get hd
      unfold Turn1
      walk_at "go"
      rw [el]
      intro kk g1 k0 k1 ok1
      walk_at "go"
      obtain ⟨y, hy⟩ : ∃ y, ls[kk.toNat]? = some y := ⟨_, List.getElem?_eq_getElem (by omega)⟩
      refine PopS.s rfl k0 (by omega) rfl (by rw [List.getElem?_map, hy]; rfl) imm_int ?_
      walk_at "go"
      exact ⟨g1, ns ++ [y], ls.eraseIdx kk.toNat, ok1, by simp [addO], by simp [hn], perm_pop hpm hy, by rw [map_erase]; rfl⟩
    · rintro acc δ2 ⟨g1, nms, ls, ok1, rfl, hn, hpm, rfl⟩
      rw [List.length_map] at hn
      have hls : ls = [] := by
        have := hpm.length_eq
        rw [List.length_append, rngI_len] at this
        exact List.eq_nil_of_length_eq_zero (by omega)
      subst hls
      rw [List.append_nil] at hpm
      walk_at "go"
      refine de_lc (own := [("_law_row", 9)]) (by assumption) (by walk_at "blk") (by walk_at "pins") (di_seq ?_)
      walk_at "go"
      have en2 : (((p.rows.map Row.d).length : Int) - 1).toNat = p.rows.length - 1 := by simp
      rw [en2, rngD_I]
      refine ⟨rfl, by rw [cutA1_len, List.length_map, sizeLine_eq]; omega, fun i acc δ => ∃ (gi : Dice) (ns ls : List Int), gi.Ok ∧ acc = ns.map .int ∧ ns.length = i ∧ (ns ++ ls).Perm (rngI 1 (p.rows.length - 1)) ∧ δ = [some gi.d, some (.tup [.tup (p.ws.map .int), .tup (p.rows.map Row.d)]), some (.tup (p.ws.map .int)), some (.tup (p.rows.map Row.d)), some (.lst (ls.map .int)), some (.lst (nms.map .int)), none, none, none, none, none, none, none, none, none], ⟨g1, [], _, ok1, rfl, rfl, List.Perm.refl _, rfl⟩, ?_, ?_⟩
      · rintro i d acc δ2 hd _ ⟨gi, ns, ls, oki, rfl, hn, hpm, rfl⟩
        have hlen := hpm.length_eq
        rw [List.length_append, rngI_len] at hlen
        have hi : i < p.rows.length - 1 := by have := (List.getElem?_eq_some_iff.mp hd).1; rwa [cutA1_len, List.length_map] at this
        have el : ((ls.map D.int).length : Int) = ls.length := by simp
        obtain ⟨r, _, rfl⟩ := List.mem_map.mp (cutA_mem (List.mem_of_getElem? hd))
        have hri := r.imm
        unfold Turn1
        walk_at "go"
        rw [el]
        intro kk g1 k0 k1 ok1
        walk_at "go"
        obtain ⟨y, hy⟩ : ∃ y, ls[kk.toNat]? = some y := ⟨_, List.getElem?_eq_getElem (by omega)⟩
        refine PopS.s rfl k0 (by omega) rfl (by rw [List.getElem?_map, hy]; rfl) imm_int ?_
        walk_at "go"
        exact ⟨g1, ns ++ [y], ls.eraseIdx kk.toNat, ok1, by simp [addO], by simp [hn], perm_pop hpm hy, by rw [map_erase]; rfl⟩
      · rintro acc δ2 ⟨g2, nus, ls, ok2, rfl, hn2, hpm2, rfl⟩
        rw [cutA1_len, List.length_map] at hn2
        have hls2 : ls = [] := by
          have := hpm2.length_eq
          rw [List.length_append, rngI_len] at this
          exact List.eq_nil_of_length_eq_zero (by omega)
        subst hls2
        rw [List.append_nil] at hpm2
        walk_at "go"
        refine MulS.rep rfl (imm_cons imm_non imm_nil) ⟨by omega, by omega, by rw [sizeLine_eq]; simp; omega⟩ ?_
        have en3 : ((p.rows.map Row.d).length : Int).toNat = p.rows.length := by simp
        rw [en3, rep_oD]
        walk_at "go"
        have nb : ∀ x ∈ (0 :: nus), 0 ≤ x ∧ x < p.rows.length := fun x m => by
          rcases List.mem_cons.mp m with rfl | m
          · omega
          · have := rngI_mem.mp (hpm2.mem_iff.mp m); omega
        have nl : (0 :: nus).length = p.rows.length := by simp; omega
        have nc : ∀ j : Int, 0 ≤ j → j < p.rows.length → j ∈ (0 :: nus) := fun j j0 j1 => by
          by_cases q : j = 0
          · subst q; exact List.mem_cons_self ..
          · exact List.mem_cons_of_mem _ (hpm2.mem_iff.mpr (rngI_mem.mpr (by omega)))
        have wb : ∀ x ∈ nms, 0 ≤ x ∧ x < p.ws.length := fun x m => by
          have := rngI_mem.mp (hpm.mem_iff.mp m); omega
        have wc : ∀ j : Int, 0 ≤ j → j < p.ws.length → j ∈ nms := fun j j0 j1 => hpm.mem_iff.mpr (rngI_mem.mpr (by omega))
        refine ds_for (by assumption) (di_enum (by assumption) (by assumption) (by walk_at "nm") (by assumption) ?_)
        walk_at "go"
        refine ⟨rfl, fun i δ => ∃ (fs : List (Option Row)) (x8 x9 x10 x11 x12 : Option D), fs.length = p.rows.length ∧ (∀ i', i' < i → ∀ j, (0 :: nus)[i']? = some j → ∃ r' : Row, fs[j.toNat]? = some (some r')) ∧ (∀ (j : Nat) (r' : Row), fs[j]? = some (some r') → r'.Ok p.ws.length p.rows.length) ∧
          δ = [some g2.d, some (.tup [.tup (p.ws.map .int), .tup (p.rows.map Row.d)]), some (.tup (p.ws.map .int)), some (.tup (p.rows.map Row.d)), some (.lst (([] : List Int).map .int)), some (.lst (nms.map .int)), some (.lst ((0 :: nus).map .int)), some (.lst (fs.map oD)), x8, x9, x10, x11, x12, none, none], ⟨List.replicate p.rows.length none, _, _, _, _, _, by simp, (fun _ q => absurd q (Nat.not_lt_zero _)), (fun j r' e => by
            have := List.mem_of_getElem? e
            rw [List.mem_replicate] at this
            cases this.2), rfl⟩, ?_, ?_⟩
        · rintro i d δ2 hd ⟨fs, x8, x9, x10, x11, x12, hfl, hfs, hfo, rfl⟩
          obtain ⟨d, hd2, rfl⟩ := enD_get hd
          obtain ⟨r, hr2, rfl⟩ := map_get hd2
          have hri := r.imm
          have okr := okp.rv r (List.mem_of_getElem? hr2)
          have hir : i < p.rows.length := (List.getElem?_eq_some_iff.mp hr2).1
          have ial : ∀ x ∈ r.args.map D.int, Imm x := imm_map fun _ => imm_int
          have hal : r.args.length ≤ 2 := by have := r.wl; simp [Row.ws] at this; omega
          refine ⟨[8, 9], ?_⟩
          walk_at "go"
          rw [cutA_first]
          refine ds_for (by assumption) (di_range2 (by assumption) (by assumption) (by walk_at "nm") (by assumption) ?_)
          walk_at "go"
          have egl : (((D.str r.nm :: r.args.map D.int).length : Int) - 1).toNat = r.args.length := by simp
          have fw : ∀ v : Int, 0 ≤ v → v < p.ws.length → 0 ≤ nms.getD v.toNat 0 ∧ nms.getD v.toNat 0 < p.ws.length := fun v h0 h1 => wb _ (getD_mem (by omega))
          have fr : ∀ v : Int, 0 ≤ v → v < p.rows.length → 0 ≤ (0 :: nus).getD v.toNat 0 ∧ (0 :: nus).getD v.toNat 0 < p.rows.length := fun v h0 h1 => nb _ (getD_mem (by omega))
          generalize hR : r.ren (fun v => nms.getD v.toNat 0) (fun v => (0 :: nus).getD v.toNat 0) = R
          have okR : R.Ok p.ws.length p.rows.length := by rw [← hR]; exact Row.ren_ok okr fw fr
          have Rnm : R.nm = r.nm := by rw [← hR]; exact Row.ren_nm
          have Rlen : R.args.length = r.args.length := by rw [← hR]; exact Row.ren_len
          have elr : ((D.str r.nm :: r.args.map D.int).length : Int) = r.args.length + 1 := by simp
          refine ⟨⟨by omega, by omega, by omega, by omega⟩, rfl, fun k2 δ => ∃ (x11 x12 : Option D), δ = [some g2.d, some (.tup [.tup (p.ws.map .int), .tup (p.rows.map Row.d)]), some (.tup (p.ws.map .int)), some (.tup (p.rows.map Row.d)), some (.lst (([] : List Int).map .int)), some (.lst (nms.map .int)), some (.lst ((0 :: nus).map .int)), some (.lst (fs.map oD)), some (.int i), some r.d, some (.tup (.str r.nm :: (R.args.take k2).map .int)), x11, x12, none, none], ⟨_, _, rfl⟩, ?_, ?_⟩
          · rintro k2 d δ2 hd ⟨x11, x12, rfl⟩
            obtain ⟨hk, rfl⟩ := rngD_get hd
            rw [egl] at hk
            obtain ⟨q, hq⟩ : ∃ q, r.args[k2]? = some q := ⟨_, List.getElem?_eq_getElem hk⟩
            have hRq := Row.ren_at (f := fun v => nms.getD v.toNat 0) (g := fun v => (0 :: nus).getD v.toNat 0) hq
            rw [hR] at hRq
            have hql := Row.arg_lt okr hq
            have hat : atI (D.str r.nm :: r.args.map D.int) (1 + (k2 : Int)) = some (.int q) := by
              rw [atI_succ (by simpa using hk), List.getElem?_map, hq]; rfl
            have tk : ∀ v, R.args[k2]? = some v → (D.str r.nm :: (R.args.take k2).map D.int) ++ [D.int v] = D.str r.nm :: (R.args.take (k2 + 1)).map D.int := fun v hv => by
              rw [List.take_add_one, hv]; simp
            have itk : ∀ x ∈ (R.args.take k2).map D.int, Imm x := imm_map fun _ => imm_int
            have szk : ∀ v : D, (D.str r.nm :: (R.args.take k2).map D.int).length + [v].length ≤ sizeLine := fun v => by
              rw [sizeLine_eq]; simp; omega
            refine ⟨[11], ?_⟩
            by_cases hA : (k2 == 0 && r.isOp) = true
            · rw [if_pos hA] at hRq hql
              obtain ⟨hk0, hop⟩ : k2 = 0 ∧ r.isOp = true := by simpa using hA
              have e1 : decide (V.int (1 + (k2 : Int)) = V.int 1) = true := by rw [hk0]; rfl
              have hnat := atI_getD (l := nms) hql.1 (by omega)
              have hin : inV (.str r.nm) [.str "load", .str "add", .str "take", .str "store"] = true := (isOp_in r).trans hop
              walk_at "go"
              refine InS.flat (x := .str r.nm) rfl rfl rfl rfl rfl rfl rfl ?_
              rw [hin]
              walk_at "go"
              refine IxS.seq rfl rfl hat imm_int ?_
              walk_at "go"
              refine IxS.seq rfl rfl hnat imm_int ?_
              walk_at "go"
              refine ⟨some (.int (1 + (k2 : Int))), some (.bl true), ?_⟩
              rw [← tk _ hRq]
              rfl
            · rw [if_neg hA] at hRq hql
              have hnat := atI_getD (l := 0 :: nus) hql.1 (by omega)
              by_cases hk0 : k2 = 0
              · have hop : r.isOp = false := by
                  cases q : r.isOp with
                  | false => rfl
                  | true => exact absurd (by simp [hk0, q]) hA
                have e1 : decide (V.int (1 + (k2 : Int)) = V.int 1) = true := by rw [hk0]; rfl
                have hin : inV (.str r.nm) [.str "load", .str "add", .str "take", .str "store"] = false := (isOp_in r).trans hop
                walk_at "go"
                refine InS.flat (x := .str r.nm) rfl rfl rfl rfl rfl rfl rfl ?_
                rw [hin]
                walk_at "go"
                refine IxS.seq rfl rfl hat imm_int ?_
                walk_at "go"
                refine IxS.seq rfl rfl hnat imm_int ?_
                walk_at "go"
                refine ⟨some (.int (1 + (k2 : Int))), some (.bl false), ?_⟩
                rw [← tk _ hRq]
                rfl
              · have e1 : decide (V.int (1 + (k2 : Int)) = V.int 1) = false := by simp; omega
                walk_at "go"
                refine IxS.seq rfl rfl hat imm_int ?_
                walk_at "go"
                refine IxS.seq rfl rfl hnat imm_int ?_
                walk_at "go"
                refine ⟨some (.int (1 + (k2 : Int))), some (.bl false), ?_⟩
                rw [← tk _ hRq]
                rfl
          · rintro δ2 ⟨x11, x12, rfl⟩
            rw [rngD_len, egl, ← Rlen, List.take_length]
            rw [show D.tup (D.str r.nm :: R.args.map D.int) = R.d by rw [← Rnm]; rfl]
            have hRi := R.imm
            obtain ⟨j, hj⟩ : ∃ j, (0 :: nus)[i]? = some j := ⟨_, List.getElem?_eq_getElem (by omega)⟩
            have hjb := nb j (List.mem_of_getElem? hj)
            have hatj : atI ((0 :: nus).map D.int) ((i : Nat) : Int) = some (.int j) := by
              obtain ⟨j', hj', ej', q⟩ := atI_of (l := (0 :: nus).map D.int) (i := (i : Int)) (by omega) (by simp; omega)
              have : j' = i := by omega
              subst this
              rw [q, List.getElem_map]
              have := (List.getElem?_eq_some_iff.mp hj).2
              rw [this]
            have hix : ixN (fs.map oD).length j = some j.toNat := ixN_of hjb.1 (by simp; omega)
            walk_at "go"
            refine IxS.seq rfl rfl hatj imm_int ?_
            walk_at "go"
            refine SetS.lst rfl hix ?_
            rw [set_oD]
            walk_at "go"
            refine ⟨fs.set j.toNat (some R), _, _, _, _, _, by simp [hfl], fun i' hi' j2 hj2 => ?_, fun j2 r' e => ?_, rfl⟩
            · by_cases q : j2.toNat = j.toNat
              · rw [q]
                exact ⟨R, by rw [List.getElem?_set_self (by omega)]⟩
              · rw [List.getElem?_set_ne (fun z => q z.symm)]
                refine hfs i' ?_ j2 hj2
                have : i' ≠ i := fun z => by
                  rw [z, hj] at hj2
                  cases hj2
                  exact q rfl
                omega
            · by_cases q : j2 = j.toNat
              · rw [q, List.getElem?_set_self (by omega)] at e
                cases e
                exact okR
              · rw [List.getElem?_set_ne (fun z => q z.symm)] at e
                exact hfo j2 r' e
        · rintro δ2 ⟨fs, x8, x9, x10, x11, x12, hfl, hfs, hfo, rfl⟩
          rw [enD_len, List.length_map] at hfs
          walk_at "go"
          refine ds_setLc (own := [("_law_worth", 14)]) (by assumption) (by walk_at "nm") (by walk_at "nm") (by walk_at "pin") (by walk_at "swap") (by walk_at "blk") (by walk_at "pins") (di_range (by assumption) (by assumption) (by walk_at "nm") (by assumption) ?_)
          walk_at "go"
          have iof : ∀ x ∈ fs.map oD, Imm x := oD_imm
          have enw : ((p.ws.map D.int).length : Int).toNat = p.ws.length := by simp
          refine lc_mapA (rngI 0 p.ws.length) D.int (fun w => D.int (nms.idxOf w : Nat)) (by rw [← rngD_I, enw]) rfl (by rw [rngI_len, sizeLine_eq]; omega) (fun i w hw2 => ?_) ?_
          · have hwm := rngI_mem.mp (List.mem_of_getElem? hw2)
            unfold Turn1
            walk_at "go"
            refine IndexS.mk rfl rfl (wc w (by omega) (by omega)) ?_
            walk_at "go"
            exact ⟨rfl, rfl⟩
          · walk_at "go"
            refine de_lcS (own := [("_law_worth", 14)]) (by assumption) (by walk_at "blk") (by walk_at "pins") (di_seq ?_)
            walk_at "go"
            have hidx : ∀ w ∈ rngI 0 p.ws.length, nms.idxOf w < p.ws.length := fun w m => by
              have hwm := rngI_mem.mp m
              have := List.idxOf_lt_length_of_mem (wc w (by omega) (by omega))
              omega
            refine lc_mapAS (rngI 0 p.ws.length) (fun w => D.int (nms.idxOf w : Nat)) (fun w => D.int (p.ws.getD (nms.idxOf w) 0)) 13 rfl rfl (by decide) (by rw [rngI_len, sizeLine_eq]; omega) (fun i w hw2 => ?_) ?_
            · have hix2 : atI (p.ws.map D.int) ((nms.idxOf w : Nat) : Int) = some (.int (p.ws.getD (nms.idxOf w) 0)) := by
                have := atI_getD (l := p.ws) (a := (nms.idxOf w : Nat)) (by omega) (by have := hidx w (List.mem_of_getElem? hw2); omega)
                simpa using this
              unfold Turn1
              walk_at "go"
              refine IxS.seq rfl rfl hix2 imm_int ?_
              walk_at "go"
              exact ⟨rfl, rfl⟩
            · walk_at "go"
              obtain ⟨rs, hrs⟩ := all_some fs (fun j hj => by
                obtain ⟨i', hi', e⟩ := List.getElem_of_mem (nc (j : Int) (by omega) (by omega))
                obtain ⟨r', hr3⟩ := hfs i' (by omega) (j : Int) (by rw [List.getElem?_eq_getElem hi', e])
                exact ⟨r', by simpa using hr3⟩)
              subst hrs
              rw [List.length_map] at hfl
              have e1 : (rs.map some).map oD = rs.map Row.d := by rw [List.map_map]; rfl
              rw [e1]
              have e2 : (rngI 0 p.ws.length).map (fun w => D.int (p.ws.getD (nms.idxOf w) 0)) = ((rngI 0 p.ws.length).map (fun w => p.ws.getD (nms.idxOf w) 0)).map D.int := by rw [List.map_map]; rfl
              rw [e2]
              refine k ⟨(rngI 0 p.ws.length).map (fun w => p.ws.getD (nms.idxOf w) 0), rs⟩ g2 ⟨?_, ?_, ?_, ?_, ?_⟩ ok2
              · show (List.map _ _).length ≤ 8
                rw [List.length_map, rngI_len]; exact hw
              · intro x m
                obtain ⟨w', m', rfl⟩ := List.mem_map.mp m
                exact okp.wv _ (getD_mem (hidx w' m'))
              · show 1 ≤ rs.length
                omega
              · show rs.length ≤ 40
                omega
              · intro r m
                obtain ⟨j, hj, e⟩ := List.getElem_of_mem m
                have := hfo j r (by rw [List.getElem?_map, List.getElem?_eq_getElem hj, e]; rfl)
                show r.Ok (List.length (List.map _ _) : Nat) rs.length
                rw [List.length_map, rngI_len, hfl]
                exact this
end
local macro_rules | `(tactic| walk_at "h:l_stopping") => `(tactic| (have : Sl n_l_stopping 0 "_law_d" := rfl; have : Sl n_l_stopping 1 "_law_deep" := rfl; have : Sl n_l_stopping 2 "_law_worths" := rfl; have : Sl n_l_stopping 3 "_law_rows" := rfl; have : Sl n_l_stopping 4 "_law_program" := rfl; have : Sl n_l_stopping 5 "_law_k" := rfl; have : Nm (defScope s_l_stopping) "_law_d" .cell := rfl; have : Nm (defScope s_l_stopping) "_law_deep" .local := rfl; have : Nm (defScope s_l_stopping) "_law_worths" .local := rfl; have : Nm (defScope s_l_stopping) "_law_rows" .local := rfl; have : Nm (defScope s_l_stopping) "_law_program" .local := rfl; have : Nm (defScope s_l_stopping) "_law_next" .globalImplicit := rfl; have : Nm (defScope s_l_stopping) "tuple" .globalImplicit := rfl; have : Nm (defScope s_l_stopping) "range" .globalImplicit := rfl; have : Nm (defScope s_l_stopping) "_law_body" .globalImplicit := rfl; have : Nm (defScope s_l_stopping) "len" .globalImplicit := rfl; have : Nm (defScope s_l_stopping) "_law_straight" .globalImplicit := rfl; have : Nm (defScope s_l_stopping) "_law_mixed" .globalImplicit := rfl; (show DB _ _ [some _, some _, none, none, none, none] (defBody s_l_stopping) _)))
section
variable {P : Program} {w : World} {K : PySem.W.Frag} {mg : Str → Option Value} {base : Heap}
theorem ok_stopping {f : Addr} {fd : FuncData} (F : L2.Fun K "_law_stopping" "_law_stopping" s_l_stopping f fd) (h1 : mg "len" = none) (h2 : mg "range" = none) (h5 : mg "tuple" = none) (G : GFn P w K mg base 1 "_law_next" 2 preNext) (G2 : GFn P w K mg base 2 "_law_straight" 2 preStraight) (G4 : GFn P w K mg base 6 "_law_body" 3 (preBody 2)) (G5 : GFn P w K mg base 2 "_law_mixed" 2 preMixed) : FnOk P w K mg base CX0 7 f fd p_l_stopping (spD K 2 preStopping) := by
  refine okD (N := n_l_stopping) [true, false] F sc_l_stopping rfl (by decide) ?_ ?_
  · rintro ds Φ _ ⟨g, deep, rfl, _⟩
    exact imm_at1 (imm_cons imm_int imm_nil)
  · rintro X f ds Φ B hF J hr hp _ ⟨g, deep, rfl, ok, d0, d1, k⟩
    walk_at "h:l_stopping"
    walk_at "go"
    intro v1 g1 v10 v11 ok1
    walk_at "go"
    intro v2 g2 v20 v21 ok2
    walk_at "go"
    refine de_lc (own := [("_law_k", 5)]) (by assumption) (by walk_at "blk") (by walk_at "pins") (di_range (by assumption) (by assumption) (by walk_at "nm") (by assumption) ?_)
    walk_at "go"
    refine ⟨rfl, by decide, fun i acc δ => ∃ (gi : Dice) (ns : List Int), gi.Ok ∧ acc = ns.map .int ∧ ns.length = i ∧ (∀ x ∈ ns, -3 ≤ x ∧ x ≤ 3) ∧ δ = [some gi.d, some (.int deep), some (D.tup [D.int 1, D.int (1 + v1), D.int (1 + v2), D.int 0, D.int 0]), none, none, none], ⟨g2, [], ok2, rfl, rfl, by simp, rfl⟩, ?_, ?_⟩
    · rintro i d acc δ2 hd _ ⟨gi, ns, oki, rfl, hn, hb, rfl⟩
      obtain ⟨hi, rfl⟩ := rngD_get hd
      unfold Turn1
      walk_at "go"
      intro x g3 x0 x1 ok3
      walk_at "go"
      exact ⟨g3, ns ++ [x - 3], ok3, by simp [addO], by simp [hn], fun y m => by
        rcases List.mem_append.mp m with m | m
        · exact hb y m
        · rw [List.mem_singleton.mp m]; omega, rfl⟩
    · rintro acc δ2 ⟨g3, ns, ok3, rfl, hn, hb, rfl⟩
      have hn3 : ns.length = 3 := hn
      have ins : ∀ x ∈ ns.map D.int, Imm x := imm_map fun _ => imm_int
      walk_at "go"
      refine ⟨g3, _, _, rfl, ok3, by decide, ?_, by omega, by omega, ?_⟩
      · unfold bnd; split <;> (try split) <;> omega
      intro rs g4 hrl hrs ok4
      have irs : ∀ x ∈ rowsD rs, Imm x := rowsD_imm
      have el : ∀ rs : List Row, ((rowsD rs).length : Int) = rs.length := fun rs => by simp [rowsD]
      walk_at "go"
      refine ds_while (by assumption) (fun m δ => ∃ (gi : Dice) (rs : List Row), gi.Ok ∧ (rs.length : Int) ≤ 234 ∧ (m = 0 → rs.length ≤ 39) ∧ RowsOk 0 rs ∧ δ = [some gi.d, some (.int deep), some (.tup (([1, 1 + v1, 1 + v2, 0, 0] ++ ns : List Int).map .int)), some (.lst (rowsD rs)), none, none]) 1 ⟨g4, rs, ok4, by revert hrl; unfold bnd; split <;> (try split) <;> omega, by simp, hrs, rfl⟩ ?_
      rintro m δ2 ⟨g5, rs, ok5, hr5, hm5, hrs5, rfl⟩
      have el5 := el rs
      have iw : ∀ x ∈ ([1, 1 + v1, 1 + v2, 0, 0] ++ ns : List Int).map D.int, Imm x := imm_map fun _ => imm_int
      have irs : ∀ x ∈ rowsD rs, Imm x := rowsD_imm
      have hsp : Shp 6 (.lst (rowsD rs)) := rowsD_shp
      walk_at "go"
      · refine ⟨g5, _, _, rfl, ok5, by decide, by decide, by decide, by decide, ?_⟩
        intro ss g6 hsl hss ok6
        walk_at "go"
        have hs18 : (ss.length : Int) ≤ 18 := hsl
        refine ⟨0, by omega, g6, ss, ok6, by omega, fun _ => by omega, hss, rfl⟩
      · have hm39 : rs.length ≤ 39 := by
          rename_i h
          simp at h
          omega
        have hw8 : ([1, 1 + v1, 1 + v2, 0, 0] ++ ns : List Int).length = 8 := by simp [hn3]
        have hwb : ∀ x ∈ ([1, 1 + v1, 1 + v2, 0, 0] ++ ns : List Int), -1000000 ≤ x ∧ x ≤ 1000000 := fun x m => by
          rcases List.mem_append.mp m with m | m
          · simp at m; omega
          · have := hb x m; omega
        have sz0 : ∀ ss : List Row, ss.length ≤ 39 → (rowsD ss).length + [D.tup [D.str "stop"]].length ≤ sizeLine := fun ss h => by rw [sizeLine_eq]; simp [rowsD]; omega
        constructor
        · intro he
          walk_at "go"
          intro r g6 hr6 hli ok6
          have hri := r.imm
          walk_at "go"
          rw [show ([r.d] : List D) = rowsD [r] from rfl, stopQ_d]
          have okq : Prog.Ok ⟨[1, 1 + v1, 1 + v2, 0, 0] ++ ns, [r] ++ [.stop]⟩ := stopQ hw8 hwb (by simp) (fun q m => by rw [List.mem_singleton.mp m]; exact hr6)
          have iqd := Prog.imm ⟨[1, 1 + v1, 1 + v2, 0, 0] ++ ns, [r] ++ [.stop]⟩
          intro t g7 t0 t1 ok7
          walk_at "go"
          · intro q' g8 okq' ok8
            walk_at "go"
            exact k q' g8 okq' ok8
          · exact k _ g7 okq ok7
        · intro he
          walk_at "go"
          rw [stopQ_d]
          have okq : Prog.Ok ⟨[1, 1 + v1, 1 + v2, 0, 0] ++ ns, rs ++ [.stop]⟩ := stopQ hw8 hwb hm39 hrs5
          have iqd := Prog.imm ⟨[1, 1 + v1, 1 + v2, 0, 0] ++ ns, rs ++ [.stop]⟩
          intro t g7 t0 t1 ok7
          walk_at "go"
          · intro q' g8 okq' ok8
            walk_at "go"
            exact k q' g8 okq' ok8
          · exact k _ g7 okq ok7
end
local macro_rules | `(tactic| walk_at "h:l_any") => `(tactic| (have : Sl n_l_any 0 "_law_d" := rfl; have : Sl n_l_any 1 "_law_many" := rfl; have : Sl n_l_any 2 "_law_rows" := rfl; have : Sl n_l_any 3 "_law_worths" := rfl; have : Sl n_l_any 4 "_law_size" := rfl; have : Sl n_l_any 5 "_law_number" := rfl; have : Sl n_l_any 6 "_law_near" := rfl; have : Sl n_l_any 7 "_law_way" := rfl; have : Sl n_l_any 8 "_law_k" := rfl; have : Nm (defScope s_l_any) "_law_d" .cell := rfl; have : Nm (defScope s_l_any) "_law_many" .local := rfl; have : Nm (defScope s_l_any) "_law_rows" .local := rfl; have : Nm (defScope s_l_any) "_law_worths" .local := rfl; have : Nm (defScope s_l_any) "_law_size" .local := rfl; have : Nm (defScope s_l_any) "_law_number" .local := rfl; have : Nm (defScope s_l_any) "_law_near" .local := rfl; have : Nm (defScope s_l_any) "_law_way" .local := rfl; have : Nm (defScope s_l_any) "_law_next" .globalImplicit := rfl; have : Nm (defScope s_l_any) "_law_stopping" .globalImplicit := rfl; have : Nm (defScope s_l_any) "tuple" .globalImplicit := rfl; have : Nm (defScope s_l_any) "range" .globalImplicit := rfl; have : Nm (defScope s_l_any) "int" .globalImplicit := rfl; (show DB _ _ [some _, none, none, none, none, none, none, none, none] (defBody s_l_any) _)))
section
variable {P : Program} {w : World} {K : PySem.W.Frag} {mg : Str → Option Value} {base : Heap}
theorem ok_any {f : Addr} {fd : FuncData} (F : L2.Fun K "_law_any" "_law_any" s_l_any f fd) (h1 : mg "int" = none) (h2 : mg "range" = none) (h5 : mg "tuple" = none) (G : GFn P w K mg base 1 "_law_next" 2 preNext) (G2 : GFn P w K mg base 7 "_law_stopping" 2 preStopping) : FnOk P w K mg base CX0 8 f fd p_l_any (spD K 1 preAny) := by
  refine okD (N := n_l_any) [true] F sc_l_any rfl (by decide) ?_ ?_
  · rintro ds Φ _ ⟨g, rfl, _⟩
    exact imm_at1 imm_nil
  · rintro X f ds Φ B hF J hr hp _ ⟨g, rfl, ok, k⟩
    walk_at "h:l_any"
    walk_at "go"
    intro v1 g1 v10 v11 ok1
    walk_at "go"
    · intro v2 g2 v20 v21 ok2
      walk_at "go"
      intro q g3 okq ok3
      walk_at "go"
      exact k q g3 okq ok3
    · refine ds_par (i := 1) (j := 2) (by assumption) (by walk_at "nm") (by walk_at "nm") (by rfl) (by walk_at "nm") (by walk_at "nm") (by walk_at "pin") (by walk_at "pin") ?_ (sw_par (by assumption) (by rfl) (by walk_at "nm") (by walk_at "nm") (by rfl) (by rfl) (by rfl) (by rfl) (by rfl))
      walk_at "go"
      intro m g2 m0 m1 ok2
      walk_at "go"
      refine de_lc (own := [("_law_k", 8)]) (by assumption) (by walk_at "blk") (by walk_at "pins") (di_range (by assumption) (by assumption) (by walk_at "nm") (by assumption) ?_)
      walk_at "go"
      refine ⟨rfl, by rw [rngD_len, sizeLine_eq]; omega, fun i acc δ => ∃ (gi : Dice) (ns : List Int), gi.Ok ∧ acc = ns.map .int ∧ ns.length = i ∧ (∀ x ∈ ns, -1000000 ≤ x ∧ x ≤ 1000000) ∧ δ = [some gi.d, some (.int m), some (.lst []), none, none, none, none, none, none], ⟨g2, [], ok2, rfl, rfl, by simp, rfl⟩, ?_, ?_⟩
      · rintro i d acc δ2 hd _ ⟨gi, ns, oki, rfl, hn, hb, rfl⟩
        obtain ⟨hi, rfl⟩ := rngD_get hd
        unfold Turn1
        walk_at "go"
        intro x g3 x0 x1 ok3
        walk_at "go"
        intro y g4 y0 y1 ok4
        walk_at "go"
        intro z g5 z0 z1 ok5
        walk_at "go"
        obtain ⟨u, hu, ub⟩ : ∃ u, atI [D.int (x - 4), D.int (y - 10 ^ Int.toNat 6)] z = some (.int u) ∧ -1000000 ≤ u ∧ u ≤ 1000000 := by
          have : z = 0 ∨ z = 1 := by omega
          rcases this with rfl | rfl
          · exact ⟨_, rfl, by omega, by omega⟩
          · exact ⟨_, rfl, by simp; omega, by simp; omega⟩
        refine IxS.seq rfl rfl hu imm_int ?_
        walk_at "go"
        exact ⟨g5, ns ++ [u], ok5, by simp [addO], by simp [hn], fun y m => by
          rcases List.mem_append.mp m with m | m
          · exact hb y m
          · rw [List.mem_singleton.mp m]; exact ub, rfl⟩
      · rintro acc δ2 ⟨g3, ns, ok3, rfl, hn, hb, rfl⟩
        rw [rngD_len] at hn
        have hn8 : ns.length ≤ 8 := by omega
        have ins : ∀ x ∈ ns.map D.int, Imm x := imm_map fun _ => imm_int
        walk_at "go"
        intro z g4 z0 z1 ok4
        walk_at "go"
        obtain ⟨u, hu, u0, u1⟩ : ∃ u, atI [D.int 6, D.int 12, D.int 40] z = some (.int u) ∧ 6 ≤ u ∧ u ≤ 40 := by
          have : z = 0 ∨ z = 1 ∨ z = 2 := by omega
          rcases this with rfl | rfl | rfl <;> exact ⟨_, rfl, by omega, by omega⟩
        refine IxS.seq rfl rfl hu imm_int ?_
        walk_at "go"
        intro sz g5 s0 s1 ok5
        walk_at "go"
        refine ds_for (by assumption) (di_range (by assumption) (by assumption) (by walk_at "nm") (by assumption) ?_)
        walk_at "go"
        refine ⟨rfl, fun i δ => ∃ (gi : Dice) (rs : List Row) (x1 x2 x3 : Option D), gi.Ok ∧ rs.length = i ∧ (∀ r ∈ rs, r.Ok m (1 + sz)) ∧ δ = [some gi.d, some (.int m), some (.lst (rowsD rs)), some (.tup (ns.map .int)), some (.int (1 + sz)), x1, x2, x3, none], ⟨g5, [], _, _, _, ok5, rfl, by simp, rfl⟩, ?_, ?_⟩
        · rintro i d δ2 hd ⟨gi, rs, x1, x2, x3, oki, hl, hrs, rfl⟩
          obtain ⟨hi, rfl⟩ := rngD_get hd
          have irs : ∀ x ∈ rowsD rs, Imm x := rowsD_imm
          have hsz : (rowsD rs).length < sizeLine := by rw [sizeLine_eq]; simp [rowsD]; omega
          refine ⟨[5], ?_⟩
          walk_at "go"
          intro y1 g6 y10 y11 ok6
          walk_at "go"
          intro y2 g7 y20 y21 ok7
          walk_at "go"
          obtain ⟨u, hat, hu⟩ : ∃ u, atI [D.int ((0 + (i : Int) + 1) % (1 + sz)), D.int y1] (if decide (V.int y2 = V.int 3) = true then 1 else 0) = some (.int u) ∧ 0 ≤ u ∧ u < 1 + sz := by
            split
            · exact ⟨_, rfl, y10, y11⟩
            · exact ⟨_, rfl, Int.emod_nonneg _ (by omega), Int.emod_lt_of_pos _ (by omega)⟩
          refine IxS.seq rfl rfl hat imm_int ?_
          walk_at "go"
          intro way g8 w0 w1 ok8
          walk_at "go"
          · rename_i hw5 hm0
            obtain ⟨o, ho⟩ : ∃ o : Op4, atI [D.str "load", D.str "add", D.str "take", D.str "store", D.str "add"] way = some (.str o.s) := by
              have : way = 0 ∨ way = 1 ∨ way = 2 ∨ way = 3 ∨ way = 4 := by omega
              rcases this with rfl | rfl | rfl | rfl | rfl
              · exact ⟨.load, rfl⟩
              · exact ⟨.add, rfl⟩
              · exact ⟨.take, rfl⟩
              · exact ⟨.store, rfl⟩
              · exact ⟨.add, rfl⟩
            refine IxS.seq rfl rfl ho imm_str ?_
            walk_at "go"
            intro v g9 v0 v1 ok9
            walk_at "go"
            exact ⟨g9, rs ++ [.op o v u], _, _, _, ok9, by simp [hl], fun q mm => by
              rcases List.mem_append.mp mm with mm | mm
              · exact hrs q mm
              · rw [List.mem_singleton.mp mm]; exact ⟨⟨v0, v1⟩, hu.1, hu.2⟩, by rw [← rowsD_app]; rfl⟩
          · skip
            intro y5 g9 y50 y51 ok9
            walk_at "go"
            obtain ⟨r, hr, okr⟩ : ∃ r : Row, atI [D.tup [.str "say", .int u], D.tup [.str "test", .int y5, .int u], D.tup [.str "stop"]] (way % 3) = some r.d ∧ r.Ok m (1 + sz) := by
              have : way % 3 = 0 ∨ way % 3 = 1 ∨ way % 3 = 2 := by omega
              rcases this with e | e | e <;> rw [e]
              · exact ⟨.say u, rfl, hu.1, hu.2⟩
              · exact ⟨.test y5 u, rfl, ⟨by omega, by omega⟩, hu.1, hu.2⟩
              · exact ⟨.stop, rfl, trivial⟩
            refine IxS.seq rfl rfl hr r.imm ?_
            walk_at "go"
            exact ⟨g9, rs ++ [r], _, _, _, ok9, by simp [hl], fun q mm => by
              rcases List.mem_append.mp mm with mm | mm
              · exact hrs q mm
              · rw [List.mem_singleton.mp mm]; exact okr, by rw [← rowsD_app]; rfl⟩
          · skip
            intro y5 g9 y50 y51 ok9
            walk_at "go"
            obtain ⟨r, hr, okr⟩ : ∃ r : Row, atI [D.tup [.str "say", .int u], D.tup [.str "test", .int y5, .int u], D.tup [.str "stop"]] (way % 3) = some r.d ∧ r.Ok m (1 + sz) := by
              have : way % 3 = 0 ∨ way % 3 = 1 ∨ way % 3 = 2 := by omega
              rcases this with e | e | e <;> rw [e]
              · exact ⟨.say u, rfl, hu.1, hu.2⟩
              · exact ⟨.test y5 u, rfl, ⟨by omega, by omega⟩, hu.1, hu.2⟩
              · exact ⟨.stop, rfl, trivial⟩
            refine IxS.seq rfl rfl hr r.imm ?_
            walk_at "go"
            exact ⟨g9, rs ++ [r], _, _, _, ok9, by simp [hl], fun q mm => by
              rcases List.mem_append.mp mm with mm | mm
              · exact hrs q mm
              · rw [List.mem_singleton.mp mm]; exact okr, by rw [← rowsD_app]; rfl⟩
        · rintro δ2 ⟨gi, rs, x1, x2, x3, oki, hl, hrs, rfl⟩
          rw [rngD_len] at hl
          have irs : ∀ x ∈ rowsD rs, Imm x := rowsD_imm
          walk_at "go"
          refine k ⟨ns, rs⟩ gi ⟨hn8, hb, ?_, ?_, fun r m' => ?_⟩ oki
          · show 1 ≤ rs.length
            omega
          · show rs.length ≤ 40
            omega
          · exact (hrs r m').mono (by show m ≤ (ns.length : Nat); omega) (by show 1 + sz ≤ (rs.length : Nat); omega)
end
local macro_rules | `(tactic| walk_at "h:law") => `(tactic| (have : Sl n_law 0 "_law_script" := rfl; have : Sl n_law 1 "_law_d" := rfl; have : Sl n_law 2 "_law_turn" := rfl; have : Sl n_law 3 "_law_worths" := rfl; have : Sl n_law 4 "_law_rows" := rfl; have : Sl n_law 5 "_law_lines" := rfl; have : Sl n_law 6 "_law_text" := rfl; have : Sl n_law 7 "_law_row" := rfl; have : Sl n_law 8 "_law_worth" := rfl; have : Sl n_law 9 "_law_part" := rfl; have : Nm (defScope s_law) "_law_script" .local := rfl; have : Nm (defScope s_law) "_law_d" .local := rfl; have : Nm (defScope s_law) "_law_turn" .local := rfl; have : Nm (defScope s_law) "_law_worths" .local := rfl; have : Nm (defScope s_law) "_law_rows" .local := rfl; have : Nm (defScope s_law) "_law_lines" .local := rfl; have : Nm (defScope s_law) "_law_text" .local := rfl; have : Nm (defScope s_law) "_law_dice" .globalImplicit := rfl; have : Nm (defScope s_law) "range" .globalImplicit := rfl; have : Nm (defScope s_law) "_law_any" .globalImplicit := rfl; have : Nm (defScope s_law) "_law_next" .globalImplicit := rfl; have : Nm (defScope s_law) "_law_like" .globalImplicit := rfl; have : Nm (defScope s_law) "written" .globalImplicit := rfl; have : Nm (defScope s_law) "read" .globalImplicit := rfl; (show DB _ _ [some _, none, none, none, none, none, none, none, none, none] (defBody s_law) _)))
section
variable {P : Program} {w : World} {K : PySem.W.Frag} {mg : Str → Option Value} {base : Heap}
theorem Row.pl (r : Row) : Pl 1 r.d := by
  unfold Row.d
  refine Pl.tup (by cases r <;> simp [Row.args]) fun x m => ?_
  rcases List.mem_cons.mp m with rfl | m
  · exact .str
  · obtain ⟨q, _, rfl⟩ := List.mem_map.mp m; exact .int
theorem Prog.pl {p : Prog} (h : p.Ok) : Pl 3 p.d := by
  unfold Prog.d
  have h1 := h.wl
  have h2 := h.rl
  refine Pl.tup (by simp) fun x m => ?_
  rcases List.mem_cons.mp m with rfl | m
  · refine Pl.tup (by simp; omega) fun x m => ?_
    obtain ⟨q, _, rfl⟩ := List.mem_map.mp m; exact .int
  · rcases List.mem_cons.mp m with rfl | m
    · refine Pl.tup (by simp; omega) fun x m => ?_
      obtain ⟨r, _, rfl⟩ := List.mem_map.mp m; exact r.pl
    · cases m
theorem ok_law {f : Addr} {fd : FuncData} (F : L2.Fun K "law" "law" s_law f fd) (h2 : mg "range" = none) (h3 : mg "str" = none) (G1 : GFn P w K mg base 1 "_law_dice" 1 preDice) (G2 : GFn P w K mg base 8 "_law_any" 1 preAny) (G3 : GFn P w K mg base 1 "_law_next" 2 preNext) (G4 : GFn P w K mg base 4 "_law_like" 2 (preLike 3)) (G5 : GFn P w K mg base 4 "written" 1 preWritten) (G6 : GFn P w K mg base 4 "read" 1 preRead) : FnOk P w K mg base CX0 9 f fd p_law (spD K 1 preLaw) := by
  refine okD (N := n_law) [false] F sc_law rfl (by decide) ?_ ?_
  · rintro ds Φ _ ⟨p, rfl, _⟩
    exact imm_at0 (imm_cons imm_fzi imm_nil)
  · rintro X f ds Φ B hF J hr hp _ ⟨sc, rfl, hl, k⟩
    walk_at "h:law"
    walk_at "go"
    intro g okg
    walk_at "go"
    refine ds_for (by assumption) (di_range (by assumption) (by assumption) (by walk_at "nm") (by assumption) ?_)
    walk_at "go"
    refine ⟨rfl, fun i δ => ∃ (gi : Dice) (x2 x3 x4 x5 x6 : Option D), gi.Ok ∧ δ = [some (.fz (sc.map .int)), some gi.d, x2, x3, x4, x5, x6, none, none, none], ⟨g, _, _, _, _, _, okg, rfl⟩, ?_, ?_⟩
    · rintro i d δ2 hd ⟨gi, x2, x3, x4, x5, x6, oki, rfl⟩
      obtain ⟨hi, rfl⟩ := rngD_get hd
      refine ⟨[2], ?_⟩
      walk_at "go"
      intro q g1 okq ok1
      refine ⟨_, _, Take.v, ?_⟩
      unfold Prog.d
      refine dgw_tup (by assumption) (dgsw_cons ?_)
      refine dgw_name (by assumption) (by with_reducible assumption) (by walk_at "sto") (by walk_at "pin") (dgsw_cons ?_)
      refine dgw_name (by assumption) (by with_reducible assumption) (by walk_at "sto") (by walk_at "pin") (dgsw_nil ?_)
      have iw : ∀ x ∈ q.ws.map D.int, Imm x := imm_map fun _ => imm_int
      have ir : ∀ x ∈ q.rows.map Row.d, Imm x := rows_imm
      refine db_cut (Mid := fun δ => ∃ (q' : Prog) (g' : Dice) (x2 : Option D), q'.Ok ∧ g'.Ok ∧ δ = [some (.fz (sc.map .int)), some g'.d, x2, some (.tup (q'.ws.map .int)), some (.tup (q'.rows.map Row.d)), x5, x6, none, none, none]) ?_ ?_
      · rcases q with ⟨ws, rows⟩
        cases ws with
        | nil =>
          walk_at "go"
          · exact ⟨⟨[], rows⟩, g1, _, okq, ok1, rfl⟩
          · exact ⟨⟨[], rows⟩, g1, _, okq, ok1, rfl⟩
        | cons w0 ws =>
          have iws : ∀ x ∈ ws.map D.int, Imm x := imm_map fun _ => imm_int
          have hw8 : (w0 :: ws).length ≤ 8 := okq.wl
          walk_at "go"
          · intro z g2 z0 z1 ok2
            walk_at "go"
            obtain ⟨u, hu, u0, u1⟩ : ∃ u, atI [D.int (10 ^ Int.toNat 6), D.int (-10 ^ Int.toNat 6), D.int 0, D.int (-1)] z = some (.int u) ∧ -1000000 ≤ u ∧ u ≤ 1000000 := by
              have : z = 0 ∨ z = 1 ∨ z = 2 ∨ z = 3 := by omega
              rcases this with rfl | rfl | rfl | rfl <;> exact ⟨_, rfl, by decide, by decide⟩
            refine IxS.seq rfl rfl hu imm_int ?_
            walk_at "go"
            have ec : cutA (List.map D.int (Prog.mk (w0 :: ws) rows).ws) (some 1) none = ws.map D.int := cutA_tail
            rw [ec]
            refine AddS.tup rfl rfl (imm_app (imm_cons imm_int imm_nil) iws) (by rw [sizeLine_eq]; simp at hw8 ⊢; omega) ?_
            walk_at "go"
            exact ⟨⟨u :: ws, rows⟩, g2, _, ⟨okq.wl, fun x m => by
              rcases List.mem_cons.mp m with rfl | m
              · exact ⟨u0, u1⟩
              · exact okq.wv x (List.mem_cons_of_mem _ m), okq.r0, okq.rl, okq.rv⟩, ok2, rfl⟩
          · exact ⟨⟨w0 :: ws, rows⟩, g1, _, okq, ok1, rfl⟩
      · rintro δ1 ⟨q, g2, x2, okq, ok2, rfl⟩
        have iw : ∀ x ∈ q.ws.map D.int, Imm x := imm_map fun _ => imm_int
        have ir : ∀ x ∈ q.rows.map Row.d, Imm x := rows_imm
        have hw := okq.wl
        have hr' := okq.rl
        walk_at "go"
        refine de_lc (own := [("_law_worth", 8)]) (by assumption) (by walk_at "blk") (by walk_at "pins") (di_seq ?_)
        walk_at "go"
        refine lc_mapA q.ws D.int (fun x => D.str (numW x)) rfl rfl (by rw [sizeLine_eq]; omega) (fun i x hx => ?_) ?_
        · have hv := okq.wv x (List.mem_of_getElem? hx)
          unfold Turn1
          walk_at "go"
          refine StrS.int (lg_small (by omega) (by omega)) ?_
          walk_at "go"
          exact ⟨rfl, rfl⟩
        · have ew : q.ws.map (fun x => D.str (numW x)) = strsD (q.ws.map numW) := by simp [strsD]
          rw [ew]
          have sz1 : [D.str "worths"].length + (strsD (q.ws.map numW)).length ≤ sizeLine := by rw [sizeLine_eq]; simp [strsD]; omega
          walk_at "go"
          refine JoinS.mk (ys := "worths" :: q.ws.map numW) rfl rfl rfl ?_ ?_
          · have hb := join_bd (s := " ") (ys := ("worths" : Str) :: q.ws.map numW) (m := 640) (n := 9) (fun y hy => ?_) (by simp; omega)
            · exact Nat.le_trans hb (by decide)
            · rcases List.mem_cons.mp hy with rfl | hy
              · decide
              · obtain ⟨q', hq, rfl⟩ := List.mem_map.mp hy
                have hv := okq.wv q' hq
                exact (numW_val (by omega)).2
          walk_at "go"
          refine de_lc (own := [("_law_row", 7)]) (by assumption) (by walk_at "blk") (by walk_at "pins") (di_seq ?_)
          walk_at "go"
          refine lc_mapA q.rows Row.d (fun r => D.str (lineW r.ws)) rfl rfl (by rw [sizeLine_eq]; omega) (fun i r hr2 => ?_) ?_
          · have ic : ∀ x ∈ r.args.map D.int, Imm x := imm_map fun _ => imm_int
            have ok3 := okq.rv r (List.mem_of_getElem? hr2)
            have hal : r.args.length ≤ 2 := by have := r.wl; simp [Row.ws] at this; omega
            unfold Turn1 Row.d
            walk_at "go"
            refine de_lc (own := [("_law_part", 9)]) (by assumption) (by walk_at "blk") (by walk_at "pins") (di_seq ?_)
            walk_at "go"
            rw [cutA_tail]
            refine lc_mapA r.args D.int (fun x => D.str (numW x)) rfl rfl (by rw [sizeLine_eq]; omega) (fun i x hx => ?_) ?_
            · have hs := Row.small ok3 (by omega) (by omega) x (List.mem_of_getElem? hx)
              unfold Small at hs
              unfold Turn1
              walk_at "go"
              refine StrS.int (lg_small (by omega) (by omega)) ?_
              walk_at "go"
              exact ⟨rfl, rfl⟩
            · have ew2 : r.args.map (fun x => D.str (numW x)) = strsD (r.args.map numW) := by simp [strsD]
              rw [ew2]
              have sz2 : [D.str r.nm].length + (strsD (r.args.map numW)).length ≤ sizeLine := by rw [sizeLine_eq]; simp [strsD]; omega
              walk_at "go"
              refine JoinS.mk (ys := r.ws) rfl rfl rfl (Nat.le_trans (join_bd (Row.wlen ok3 (by omega) (by omega)) r.wl) (by decide)) ?_
              walk_at "go"
              exact ⟨rfl, rfl⟩
          · walk_at "go"
            have il : ∀ x ∈ q.rows.map fun r => D.str (lineW r.ws), Imm x := imm_map fun _ => imm_str
            refine AddS.lst rfl rfl (imm_app (imm_cons imm_str imm_nil) il) (by rw [sizeLine_eq]; simp; omega) ?_
            walk_at "go"
            refine JoinS.mk (ys := q.lines) rfl rfl (by simp [strsD, Prog.lines, lineW]) ?_ ?_
            · refine Nat.le_trans (join_bd (m := 5769) (n := 41) (fun y hy => ?_) (by simp [Prog.lines]; omega)) (by decide)
              rcases List.mem_cons.mp hy with rfl | hy
              · exact Prog.headlen okq
              · obtain ⟨r, hr2, rfl⟩ := List.mem_map.mp hy
                exact Nat.le_trans (Row.linelen (okq.rv r hr2) (by omega) (by omega)) (by decide)
            have plq := Prog.pl okq
            have pls : Pl 3 (.str q.text) := .str
            have iqq := q.imm
            walk_at "go"
            exact ⟨g2, _, _, _, _, _, ok2, rfl⟩
    · rintro δ2 ⟨gi, x2, x3, x4, x5, x6, oki, rfl⟩
      walk_at "go"
      exact k
end
theorem all_mk {l : PySem.W.OpenLaw} {w : World} {K : PySem.W.Frag} {h : Heap} {mg : Str → Option Value} {fa aS : Addr} {esS : List DictEntry} {nS : Nat} {t1 t2 t3 t4 t5 t6 : Tok} (X : K.In h) (G : h.Ns mainGlobals mg) (hfa : mg "law" = some (.ref fa))
    (F_is_number : FnAt K "is_number" s_is_number)
    (F_why_row : FnAt K "why_row" s_why_row)
    (F_need_program : FnAt K "need_program" s_need_program)
    (F_written : FnAt K "written" s_written)
    (F_number_of : FnAt K "number_of" s_number_of)
    (F_numbers_of : FnAt K "numbers_of" s_numbers_of)
    (F_read : FnAt K "read" s_read)
    (F_l_dice : FnAt K "_law_dice" s_l_dice)
    (F_l_next : FnAt K "_law_next" s_l_next)
    (F_l_like : FnAt K "_law_like" s_l_like)
    (F_l_straight : FnAt K "_law_straight" s_l_straight)
    (F_l_fork : FnAt K "_law_fork" s_l_fork)
    (F_l_body : FnAt K "_law_body" s_l_body)
    (F_l_mixed : FnAt K "_law_mixed" s_l_mixed)
    (F_l_stopping : FnAt K "_law_stopping" s_l_stopping)
    (F_l_any : FnAt K "_law_any" s_l_any)
    (F_law : FnAt K "law" s_law)
    (b_isinstance : PySem.W.nsIn K mainGlobals "isinstance" = some none)
    (b_int : PySem.W.nsIn K mainGlobals "int" = some none)
    (b_bool : PySem.W.nsIn K mainGlobals "bool" = some none)
    (b_tuple : PySem.W.nsIn K mainGlobals "tuple" = some none)
    (b_str : PySem.W.nsIn K mainGlobals "str" = some none)
    (b_len : PySem.W.nsIn K mainGlobals "len" = some none)
    (b_zip : PySem.W.nsIn K mainGlobals "zip" = some none)
    (b_enumerate : PySem.W.nsIn K mainGlobals "enumerate" = some none)
    (b_list : PySem.W.nsIn K mainGlobals "list" = some none)
    (b_range : PySem.W.nsIn K mainGlobals "range" = some none)
    (v1 : PySem.W.nsIn K mainGlobals "MOST_NUMBER" = some (some (.int 1000000 t1))) (v2 : PySem.W.nsIn K mainGlobals "MOST_WORTHS" = some (some (.int 8 t2))) (v3 : PySem.W.nsIn K mainGlobals "MOST_ROWS" = some (some (.int 40 t3))) (v4 : PySem.W.nsIn K mainGlobals "MOST_FIGURES" = some (some (.int 7 t4)))
    (v5 : PySem.W.nsIn K mainGlobals "FIGURES" = some (some (.str "0123456789" t5))) (v6 : PySem.W.nsIn K mainGlobals "HEAD" = some (some (.str "worths" t6)))
    (kS : PySem.W.nsIn K mainGlobals "SHAPES" = some (some (.ref aS))) (lS : K.lookup aS = some ⟨.type "dict", none, .dict ⟨esS⟩ nS, #[]⟩) (litS : PySem.W.KeysLit w.params esS) (lowS : (aS == sysModules) = false) (tabS : KdEs esS shapes) :
    ∃ fd : FuncData, (∀ (s : Shared) (v : Value), BindsTo s fd ⟨[v], []⟩ [("_law_script", v)]) ∧ ∀ base : Heap, K.In base → base.Ns mainGlobals mg → FnOk l.prog w K mg base CX0 9 fa fd ["_law_script"] (spD K 1 preLaw) := by
  have m_isinstance := PySem.W.mg_none_of X G b_isinstance
  have m_int := PySem.W.mg_none_of X G b_int
  have m_bool := PySem.W.mg_none_of X G b_bool
  have m_tuple := PySem.W.mg_none_of X G b_tuple
  have m_str := PySem.W.mg_none_of X G b_str
  have m_len := PySem.W.mg_none_of X G b_len
  have m_zip := PySem.W.mg_none_of X G b_zip
  have m_enumerate := PySem.W.mg_none_of X G b_enumerate
  have m_list := PySem.W.mg_none_of X G b_list
  have m_range := PySem.W.mg_none_of X G b_range
  have c1 : GlobD K mg "MOST_NUMBER" (.int 1000000) := globD_mk (v := .int 1000000) X G v1 ⟨_, rfl⟩ rfl
  have c2 : GlobD K mg "MOST_WORTHS" (.int 8) := globD_mk (v := .int 8) X G v2 ⟨_, rfl⟩ rfl
  have c3 : GlobD K mg "MOST_ROWS" (.int 40) := globD_mk (v := .int 40) X G v3 ⟨_, rfl⟩ rfl
  have c4 : GlobD K mg "MOST_FIGURES" (.int 7) := globD_mk (v := .int 7) X G v4 ⟨_, rfl⟩ rfl
  have c5 : GlobD K mg "FIGURES" (.str "0123456789") := globD_mk (v := .str "0123456789") X G v5 ⟨_, rfl⟩ rfl
  have c6 : GlobD K mg "HEAD" (.str "worths") := globD_mk (v := .str "worths") X G v6 ⟨_, rfl⟩ rfl
  have S : KD K w mg "SHAPES" shapes := kd_mk X G kS lS litS lowS tabS
  obtain ⟨f, fd, a, F⟩ := F_law
  have e := hfa.symm.trans (PySem.W.mg_of X G a)
  cases e
  refine ⟨fd, fun s v => Fun.bindsTo F (fun _ _ _ _ _ _ v => rfl) s v, fun base _ _ => ?_⟩
  have G_is_number : GFn l.prog w K mg base 1 "is_number" 1 preIsNum := F_is_number.g (ps := p_is_number) X G (fun f fd F => F.binds (ps := p_is_number) fun _ _ _ _ _ _ us hl => match us, hl with | [_], _ => rfl) rfl (fun f fd F => ok_is_number F m_isinstance m_int m_bool)
  have G_why_row : GFn l.prog w K mg base 2 "why_row" 3 preWhyOk := F_why_row.g (ps := p_why_row) X G (fun f fd F => F.binds (ps := p_why_row) fun _ _ _ _ _ _ us hl => match us, hl with | [_, _, _], _ => rfl) rfl (fun f fd F => ok_why_row F m_isinstance m_tuple m_str m_len m_zip S G_is_number)
  have G_need_program : GFn l.prog w K mg base 3 "need_program" 1 preNeedOk := F_need_program.g (ps := p_need_program) X G (fun f fd F => F.binds (ps := p_need_program) fun _ _ _ _ _ _ us hl => match us, hl with | [_], _ => rfl) rfl (fun f fd F => ok_need_program F m_len m_enumerate c2 c3 c1 G_why_row)
  have G_written : GFn l.prog w K mg base 4 "written" 1 preWritten := F_written.g (ps := p_written) X G (fun f fd F => F.binds (ps := p_written) fun _ _ _ _ _ _ us hl => match us, hl with | [_], _ => rfl) rfl (fun f fd F => ok_written F m_str c6 G_need_program)
  have G_number_of : GFn l.prog w K mg base 1 "number_of" 1 preNumOf := F_number_of.g (ps := p_number_of) X G (fun f fd F => F.binds (ps := p_number_of) fun _ _ _ _ _ _ us hl => match us, hl with | [_], _ => rfl) rfl (fun f fd F => ok_number_of F m_len m_int c4 c5)
  have G_numbers_of : GFn l.prog w K mg base 2 "numbers_of" 2 preNumsOf := F_numbers_of.g (ps := p_numbers_of) X G (fun f fd F => F.binds (ps := p_numbers_of) fun _ _ _ _ _ _ us hl => match us, hl with | [_, _], _ => rfl) rfl (fun f fd F => ok_numbers_of F m_tuple G_number_of)
  have G_read : GFn l.prog w K mg base 4 "read" 1 preRead := F_read.g (ps := p_read) X G (fun f fd F => F.binds (ps := p_read) fun _ _ _ _ _ _ us hl => match us, hl with | [_], _ => rfl) rfl (fun f fd F => ok_read F m_len m_enumerate m_tuple c6 S G_numbers_of G_need_program)
  have G_l_dice : GFn l.prog w K mg base 1 "_law_dice" 1 preDice := F_l_dice.g (ps := p_l_dice) X G (fun f fd F => F.binds (ps := p_l_dice) fun _ _ _ _ _ _ us hl => match us, hl with | [_], _ => rfl) rfl (fun f fd F => ok_dice F m_len m_int)
  have G_l_next : GFn l.prog w K mg base 1 "_law_next" 2 preNext := F_l_next.g (ps := p_l_next) X G (fun f fd F => F.binds (ps := p_l_next) fun _ _ _ _ _ _ us hl => match us, hl with | [_, _], _ => rfl) rfl (fun f fd F => ok_next F m_len)
  have G_l_like : GFn l.prog w K mg base 4 "_law_like" 2 (preLike 3) := by
    obtain ⟨f, fd, a, F⟩ := F_l_like
    have hb : Binds K fd p_l_like [] := F.binds (ps := p_l_like) fun _ _ _ _ _ _ us hl => match us, hl with | [_, _], _ => rfl
    exact ⟨⟨f, fd, p_l_like, PySem.W.mg_of X G a, F.kp, hb, ok_like F m_len m_isinstance m_bool m_str m_int m_tuple m_list m_range (PySem.W.mg_of X G a) F.kp hb 3⟩⟩
  have G_l_straight : GFn l.prog w K mg base 2 "_law_straight" 2 preStraight := F_l_straight.g (ps := p_l_straight) X G (fun f fd F => F.binds (ps := p_l_straight) fun _ _ _ _ _ _ us hl => match us, hl with | [_, _], _ => rfl) rfl (fun f fd F => ok_straight F G_l_next)
  have G_l_fork : GFn l.prog w K mg base 3 "_law_fork" 2 preFork := F_l_fork.g (ps := p_l_fork) X G (fun f fd F => F.binds (ps := p_l_fork) fun _ _ _ _ _ _ us hl => match us, hl with | [_, _], _ => rfl) rfl (fun f fd F => ok_fork F m_len m_range G_l_next G_l_straight)
  have G_l_body0 : GFn l.prog w K mg base 4 "_law_body" 3 (preBody 0) := F_l_body.g (ps := p_l_body) X G (fun f fd F => F.binds (ps := p_l_body) fun _ _ _ _ _ _ us hl => match us, hl with | [_, _, _], _ => rfl) rfl (fun f fd F => ok_body F m_len m_range G_l_next G_l_straight G_l_fork 0 0 (.inl rfl) (by decide))
  have G_l_body1 : GFn l.prog w K mg base 5 "_law_body" 3 (preBody 1) := F_l_body.g (ps := p_l_body) X G (fun f fd F => F.binds (ps := p_l_body) fun _ _ _ _ _ _ us hl => match us, hl with | [_, _, _], _ => rfl) rfl (fun f fd F => ok_body F m_len m_range G_l_next G_l_straight G_l_fork 1 1 (.inr G_l_body0) (by decide))
  have G_l_body2 : GFn l.prog w K mg base 6 "_law_body" 3 (preBody 2) := F_l_body.g (ps := p_l_body) X G (fun f fd F => F.binds (ps := p_l_body) fun _ _ _ _ _ _ us hl => match us, hl with | [_, _, _], _ => rfl) rfl (fun f fd F => ok_body F m_len m_range G_l_next G_l_straight G_l_fork 2 2 (.inr G_l_body1) (by decide))
  have G_l_mixed : GFn l.prog w K mg base 2 "_law_mixed" 2 preMixed := F_l_mixed.g (ps := p_l_mixed) X G (fun f fd F => F.binds (ps := p_l_mixed) fun _ _ _ _ _ _ us hl => match us, hl with | [_, _], _ => rfl) rfl (fun f fd F => ok_mixed F m_len m_range m_list m_enumerate m_tuple G_l_next)
  have G_l_stopping : GFn l.prog w K mg base 7 "_law_stopping" 2 preStopping := F_l_stopping.g (ps := p_l_stopping) X G (fun f fd F => F.binds (ps := p_l_stopping) fun _ _ _ _ _ _ us hl => match us, hl with | [_, _], _ => rfl) rfl (fun f fd F => ok_stopping F m_len m_range m_tuple G_l_next G_l_straight G_l_body2 G_l_mixed)
  have G_l_any : GFn l.prog w K mg base 8 "_law_any" 1 preAny := F_l_any.g (ps := p_l_any) X G (fun f fd F => F.binds (ps := p_l_any) fun _ _ _ _ _ _ us hl => match us, hl with | [_], _ => rfl) rfl (fun f fd F => ok_any F m_int m_range m_tuple G_l_next G_l_stopping)
  exact ok_law F m_range m_str G_l_dice G_l_any G_l_next G_l_like G_written G_read
theorem walk {l : PySem.W.OpenLaw} {q : Program} {loose : List Str} {XP : (Str → Option Value) → Heap → Prop} {YP : World → Heap → Prop} {d : DefRec} {K : Params → PySem.W.Frag} (hn : l.most = some 63) (hdf : d.params.defaults = [])
    (hY : ∀ (w : World) (h : Heap), YP w h → (K w.params).In h)
    (F : ∀ (w : World) (mg : Str → Option Value) (fa : Addr) (h : Heap), (K w.params).In h → h.Ns mainGlobals mg → mg d.name = some (.ref fa) →
      ∃ fd : FuncData, (∀ (s : Shared) (u : Value), BindsTo s fd ⟨[u], []⟩ [("_law_script", u)]) ∧ ∀ base : Heap, (K w.params).In base → base.Ns mainGlobals mg → FnOk l.prog w (K w.params) mg base CX0 9 fa fd ["_law_script"] (spD (K w.params) 1 preLaw)) :
    PySem.W.WalkO q loose XP YP l.row.toRowW d [] (fun f vs => PySem.call f vs) :=
  L2.walk_of (n := 63) (k := 9) (x := "_law_script") (CX := fun _ => CX0) (sp := fun w => spD (K w.params) 1 preLaw) hn (by decide) hdf ⟨rfl, by decide, by decide⟩ hY F (fun _ _ a ns hl o hS => spD_law hl o hS _) fun _ _ _ _ _ z => z
end Dl

open PySem PySem.W PyProof.Rows in
set_option maxRecDepth 100000 in
set_option maxHeartbeats 0 in
theorem PySem.Challenge.cw_drumlay_k20_texts_holds : PySem.Challenge.rw_drumlay_k20_texts.Holds := by
  w_on; o_law; k_head; (case hw => w_witness2)
  k_fill
  refine Dl.walk (l := PySem.Challenge.rw_drumlay_k20_texts) rfl rfl (fun w h Y => PySem.W.kIn_of Y) ?F
  case F =>
    intro w mg fa h KX G hmg
    refine' Dl.all_mk KX G hmg (Dl.fnAt_mk ?a_is_number ?l_is_number ?c_is_number ?k_is_number) (Dl.fnAt_mk ?a_why_row ?l_why_row ?c_why_row ?k_why_row) (Dl.fnAt_mk ?a_need_program ?l_need_program ?c_need_program ?k_need_program) (Dl.fnAt_mk ?a_written ?l_written ?c_written ?k_written) (Dl.fnAt_mk ?a_number_of ?l_number_of ?c_number_of ?k_number_of) (Dl.fnAt_mk ?a_numbers_of ?l_numbers_of ?c_numbers_of ?k_numbers_of) (Dl.fnAt_mk ?a_read ?l_read ?c_read ?k_read) (Dl.fnAt_mk ?a_l_dice ?l_l_dice ?c_l_dice ?k_l_dice) (Dl.fnAt_mk ?a_l_next ?l_l_next ?c_l_next ?k_l_next) (Dl.fnAt_mk ?a_l_like ?l_l_like ?c_l_like ?k_l_like) (Dl.fnAt_mk ?a_l_straight ?l_l_straight ?c_l_straight ?k_l_straight) (Dl.fnAt_mk ?a_l_fork ?l_l_fork ?c_l_fork ?k_l_fork) (Dl.fnAt_mk ?a_l_body ?l_l_body ?c_l_body ?k_l_body) (Dl.fnAt_mk ?a_l_mixed ?l_l_mixed ?c_l_mixed ?k_l_mixed) (Dl.fnAt_mk ?a_l_stopping ?l_l_stopping ?c_l_stopping ?k_l_stopping) (Dl.fnAt_mk ?a_l_any ?l_l_any ?c_l_any ?k_l_any) (Dl.fnAt_mk ?a_law ?l_law ?c_law ?k_law) ?b_isinstance ?b_int ?b_bool ?b_tuple ?b_str ?b_len ?b_zip ?b_enumerate ?b_list ?b_range ?v1 ?v2 ?v3 ?v4 ?v5 ?v6 ?kS ?lS ?litS ?lowS ?tabS
    (case a_is_number => k_is); (case l_is_number => k_is); (case c_is_number => k_is); (case k_is_number => k_is)
    (case a_why_row => k_is); (case l_why_row => k_is); (case c_why_row => k_is); (case k_why_row => k_is)
    (case a_need_program => k_is); (case l_need_program => k_is); (case c_need_program => k_is); (case k_need_program => k_is)
    (case a_written => k_is); (case l_written => k_is); (case c_written => k_is); (case k_written => k_is)
    (case a_number_of => k_is); (case l_number_of => k_is); (case c_number_of => k_is); (case k_number_of => k_is)
    (case a_numbers_of => k_is); (case l_numbers_of => k_is); (case c_numbers_of => k_is); (case k_numbers_of => k_is)
    (case a_read => k_is); (case l_read => k_is); (case c_read => k_is); (case k_read => k_is)
    (case a_l_dice => k_is); (case l_l_dice => k_is); (case c_l_dice => k_is); (case k_l_dice => k_is)
    (case a_l_next => k_is); (case l_l_next => k_is); (case c_l_next => k_is); (case k_l_next => k_is)
    (case a_l_like => k_is); (case l_l_like => k_is); (case c_l_like => k_is); (case k_l_like => k_is)
    (case a_l_straight => k_is); (case l_l_straight => k_is); (case c_l_straight => k_is); (case k_l_straight => k_is)
    (case a_l_fork => k_is); (case l_l_fork => k_is); (case c_l_fork => k_is); (case k_l_fork => k_is)
    (case a_l_body => k_is); (case l_l_body => k_is); (case c_l_body => k_is); (case k_l_body => k_is)
    (case a_l_mixed => k_is); (case l_l_mixed => k_is); (case c_l_mixed => k_is); (case k_l_mixed => k_is)
    (case a_l_stopping => k_is); (case l_l_stopping => k_is); (case c_l_stopping => k_is); (case k_l_stopping => k_is)
    (case a_l_any => k_is); (case l_l_any => k_is); (case c_l_any => k_is); (case k_l_any => k_is)
    (case a_law => k_is); (case l_law => k_is); (case c_law => k_is); (case k_law => k_is)
    (case b_isinstance => k_is)
    (case b_int => k_is)
    (case b_bool => k_is)
    (case b_tuple => k_is)
    (case b_str => k_is)
    (case b_len => k_is)
    (case b_zip => k_is)
    (case b_enumerate => k_is)
    (case b_list => k_is)
    (case b_range => k_is)
    (case v1 => k_is)
    (case v2 => k_is)
    (case v3 => k_is)
    (case v4 => k_is)
    (case v5 => k_is)
    (case v6 => k_is)
    (case kS => k_is)
    (case lS => k_is)
    (case lowS => rfl)
    (case tabS => repeat' (first | exact Dl.KdEs.nil | refine Dl.KdEs.cons ?_))
    (case litS => exact ⟨⟨_, _, rfl, rfl⟩, ⟨_, _, rfl, rfl⟩, ⟨_, _, rfl, rfl⟩, ⟨_, _, rfl, rfl⟩, ⟨_, _, rfl, rfl⟩, ⟨_, _, rfl, rfl⟩, ⟨_, _, rfl, rfl⟩, trivial⟩)
